import PyProof.Rows.All
import Wide.All
import OpenK.AllK
import Wide.FinOn
import HandS.Base
import HandS.Call
import HandS.List
import HandS.Comp
import HandS.Ends
import HandS.Dict
import HandS.Iter
import HandS.Text
import HandS.Words
import HandS.WordsExc
import HandS.Exc
import HandS.ExcOwn
import HandS.Deep
import HandS.Defaults
import HandS.Style
import HandS.TupMul
import KE.SortData
import HandS.ExcIs
import HandS.ExcValue
import KE.KStateDown
import Lean
import HandS.More
import HandS.Head0
import HandS.Head1
import HandS.Head2
import HandS.HeadEnd
import HandS.HeadHook1
import HandS.HeadHook2
import KE.KDictList
import KE.KDictSum
import HandS.WordsDict
import HandS.TupLen
import HandS.SetTxt0
import HandS.SetFor
import HandS.Strs
import PySem.Challenge.RW_cellbag_k51_whole_packed_in_bags
import HandS.TupAny
import KE.KDictKeyed
import KE.GoesComp
import KE.DataMinMax
import KE.SortKeyHeap
import KE.KSortKey
import HandS.SortKw
import HandS.Keys
import HandS.DictTup
import PyProof.DictMoreH
section
set_option Elab.async false
set_option linter.all false
set_option maxRecDepth 100000
set_option maxHeartbeats 4000000
/-! ### the end: a head with facts of one's own -/
namespace G
open PySem PySem.Spec PyProof.Rows L2 He
abbrev AlE : Type := AlD × Bool
def obsE (n : Nat) (fa : List Fa) (fn : List DefD) (ex : PySem.W.Frag → Bool) (g : Addr → Option Obj) : AlE := (obsD fa fn (frG g (asD g n)), ex (frG g (asD g n)))
def hookE (n : Nat) (fa : List Fa) (fn : List DefD) (ex : PySem.W.Frag → Bool) : PySem.W.Hook where
  α := AlE
  obs := fun s => obsE n fa fn ex s.heap.get?
  val := fun _ => (valD fn, true)
  says := fun _ h => ∃ K : PySem.W.Frag, K.In h ∧ SaysD fa fn K ∧ ex K = true
  of := fun _ _ e => ⟨_, frG_in, congrArg (fun z : AlE => z.1) e, congrArg (fun z : AlE => z.2) e⟩
  keeps := fun _ _ _ ⟨K, hK, c⟩ k => ⟨K, PySem.W.Frag.In.keeps hK k, c⟩
theorem obsE_eq {n : Nat} {fa : List Fa} {fn : List DefD} {ex : PySem.W.Frag → Bool} {g : Addr → Option Obj} {s : Shared} (h : ∀ a, g a = s.heap.get? a) : obsE n fa fn ex g = (hookE n fa fn ex).obs s := by
  have e : g = s.heap.get? := funext h
  rw [e] <;> rfl
theorem walkW {l : PySem.W.OpenLaw} {n k : Nat} {q : Program} {loose : List Str} {XP : (Str → Option Value) → Heap → Prop} {YP : World → Heap → Prop} {d : DefRec} {CX : World → CXT} {x : Str}
    (hn : l.most = some n) (hn2 : n ≤ sizeLine) (hdf : d.params.defaults = []) (hr : Room k callerA)
    (F : ∀ (w : World) (mg : Str → Option Value) (fa : Addr) (h : Heap), YP w h → h.Ns mainGlobals mg → mg d.name = some (.ref fa) →
      ∃ (K : PySem.W.Frag) (fd : FuncData) (sp : Sp), K.In h ∧ (∀ (s : Shared) (u : Value), BindsTo s fd ⟨[u], []⟩ [(x, u)]) ∧
        (∀ (H : Hp) (a : Addr) (ns : List Int), ns.length ≤ n → Only H → SqL K H a (ns.map V.int) → sp [.ref a] H (fun v _ => v = .bl true) fun _ _ _ => False) ∧
        ∀ base : Heap, K.In base → base.Ns mainGlobals mg → FnOk l.prog w K mg base (CX w) k fa fd [x] sp)
    (hCX : ∀ (w : World) (H : Hp) (s : Shared) (e : Value) (s' : Shared), CX w [] H s (fun _ _ _ => False) e s' → False) :
    PySem.W.WalkO q loose XP YP l.row.toRowW d [] (fun f vs => PySem.call f vs) := by
  refine Att.attach_call hn hdf fun w s₀ s₁ mg mb fa o pm cd doc a vs ns G Y ho hd hcd hmg hobj hints hlen hg => ?_
  obtain ⟨K, fd, sp, KX, hb, hsp, hF⟩ := F w mg fa _ Y G.T.g hmg
  exact law_call KX G.T.g G.T.b G.T.builtins G.T.nolimit hg hobj hints (Nat.le_trans hlen hn2) hr hF hb (fun H hO hS => hsp H a ns hlen hO hS) fun H e s' => hCX w H s₁ e s'
/-! the exceptions' own facts -/
def eqOB (a b : Option Bool) : Bool := decide (a = b)
def excB (K : PySem.W.Frag) (D : Addr) : Bool :=
  eqO (PySem.W.findIn K (.ref D) "__getattribute__") (some (some (.builtin "BaseException.__getattribute__"))) && (eqO (PySem.W.findIn K (.ref D) "__getattr__") (some none) && (eqOB (PySem.W.subIn K (.ref D) (.type "BaseException")) (some true) && (PySem.W.hasDictIn K D && (eqO (PySem.W.findIn K (.ref D) "__class__") (some (some (.builtin "object.__class__"))) &&
    (eqO (PySem.W.specialIn K (.builtin "object.__class__") "__get__") (some (some (.builtin "getset_descriptor.__get__"))) && (eqOB (PySem.W.takesIn K (.builtin "object.__class__")) (some true) && eqOB (PySem.W.mroIn K D (.type "object")) (some true)))))))
theorem excB_ok {K : PySem.W.Frag} {D : Addr} (h : excB K D = true) : ExcC K D := by
  unfold excB at h
  simp only [Bool.and_eq_true] at h
  obtain ⟨h1, h2, h3, h4, h5, h6, h7, h8⟩ := h
  exact ⟨eqO_ok h1, eqO_ok h2, of_decide_eq_true h3, h4, eqO_ok h5, eqO_ok h6, of_decide_eq_true h7, of_decide_eq_true h8⟩
def errsB (errs : List Str) (K : PySem.W.Frag) : Bool := errs.all fun c => excB K (ga K c) && (eqOB (PySem.W.kitOne K (.ref (ga K c)) (.type "ValueError")) (some true) && (eqOB (PySem.W.exmOne K (.ref (ga K c)) (.ref (ga K "BagError"))) (some true) && errs.all fun c' => eqOB (PySem.W.kitOne K (.ref (ga K c)) (.ref (ga K c'))) (some (decide (c = c')))))
theorem errsB_ok {errs : List Str} {K : PySem.W.Frag} (h : errsB errs K = true) {c : Str} (hc : c ∈ errs) : ExcC K (ga K c) ∧ PySem.W.kitOne K (.ref (ga K c)) (.type "ValueError") = some true ∧ PySem.W.exmOne K (.ref (ga K c)) (.ref (ga K "BagError")) = some true ∧
    ∀ c' ∈ errs, PySem.W.kitOne K (.ref (ga K c)) (.ref (ga K c')) = some (decide (c = c')) := by
  have h1 := List.all_eq_true.mp h c hc
  simp only [Bool.and_eq_true] at h1
  obtain ⟨h1, h2, h3, h4⟩ := h1
  exact ⟨excB_ok h1, of_decide_eq_true h2, of_decide_eq_true h3, fun c' hc' => of_decide_eq_true (List.all_eq_true.mp h4 c' hc')⟩
end G
end

section
set_option Elab.async false
set_option linter.all false
set_option maxRecDepth 100000
set_option maxHeartbeats 4000000
namespace T
open PySem L2
def top (i : Nat) : Stmt := PySem.Challenge.pw_cellbag_k51_whole_packed_in_bags.main.body.getD i (.Pass ⟨0, 0, 0, 0⟩)
abbrev s_look_shape : Stmt := top 12
abbrev s_turn_once : Stmt := top 13
abbrev s_turned : Stmt := top 14
abbrev s_cells : Stmt := top 15
abbrev s_turns_of : Stmt := top 16
abbrev s_look_packing : Stmt := top 21
abbrev s_spots : Stmt := top 22
abbrev s_packing : Stmt := top 23
abbrev s_laid : Stmt := top 24
abbrev s_ways : Stmt := top 25
abbrev s_count_ways : Stmt := top 26
abbrev s_Pile_init : Stmt := inClass (top 29) 0
abbrev s_Pile_told : Stmt := inClass (top 29) 1
abbrev s_Bag_init : Stmt := inClass (top 30) 0
abbrev s_Bag_cells_of : Stmt := inClass (top 30) 1
abbrev s_Bag_is_free : Stmt := inClass (top 30) 2
abbrev s_Bag_fits : Stmt := inClass (top 30) 3
abbrev s_Bag_look_many : Stmt := inClass (top 30) 4
abbrev s_Bag_lay : Stmt := inClass (top 30) 5
abbrev s_Bag_lift : Stmt := inClass (top 30) 6
abbrev s_Bag_put : Stmt := inClass (top 30) 7
abbrev s_Bag_need : Stmt := inClass (top 30) 8
abbrev s_Bag_pile : Stmt := inClass (top 30) 9
abbrev s_Bag_numbers : Stmt := inClass (top 30) 10
abbrev s_Bag_place_of : Stmt := inClass (top 30) 11
abbrev s_Bag_at : Stmt := inClass (top 30) 12
abbrev s_Bag_take : Stmt := inClass (top 30) 13
abbrev s_Bag_pile_up : Stmt := inClass (top 30) 14
abbrev s_Bag_join : Stmt := inClass (top 30) 17
abbrev s_Bag_weight : Stmt := inClass (top 30) 20
abbrev s_Bag_free : Stmt := inClass (top 30) 21
abbrev s_look_name : Stmt := top 37
abbrev s_Book_init : Stmt := inClass (top 38) 0
abbrev s_Book_add : Stmt := inClass (top 38) 1
abbrev s_Book_need : Stmt := inClass (top 38) 2
abbrev s_Book_names : Stmt := inClass (top 38) 3
abbrev s_Book_shape : Stmt := inClass (top 38) 4
abbrev s_Book_most : Stmt := inClass (top 38) 5
abbrev s_Book_turns : Stmt := inClass (top 38) 6
abbrev s_Book_weight : Stmt := inClass (top 38) 7
abbrev s_first_place : Stmt := top 40
abbrev s_look_many : Stmt := top 41
abbrev s_add : Stmt := top 42
abbrev s_law_cell : Stmt := top 44
abbrev s_law_mix : Stmt := top 45
abbrev s_law_draw : Stmt := top 46
abbrev s_law_shape : Stmt := top 47
abbrev s_law : Stmt := top 48
end T
namespace Sh
end Sh
end

section
set_option Elab.async false
set_option linter.all false
set_option maxRecDepth 100000
set_option maxHeartbeats 4000000
namespace G
open PySem PySem.Spec PyProof.Rows L2 Sh
def errs : List Str := ["BadShape", "BadKind", "BadNumber", "BadPlace", "BadPile", "BadSlot", "BadText"]
end G
end

section
set_option Elab.async false
set_option linter.all false
set_option maxRecDepth 100000
set_option maxHeartbeats 4000000
/-! ### sorted(d.keys(), key=x.m), m a def of the program -/
namespace G
open PySem PySem.Spec PyProof.Rows L2 He
def bmB (K : PySem.W.Frag) (C : Addr) (m : Str) : Bool := match PySem.W.findIn K (.ref C) m with
  | some (some (.ref g)) => eqO (PySem.W.specialIn K (.ref g) "__get__") (some (some (.builtin "function.__get__"))) && (eqOB (PySem.W.takesIn K (.ref g)) (some false) && (PySem.W.fnIn K g && !PySem.W.copiedNames.contains m))
  | _ => false
end G
end

section
set_option Elab.async false
set_option linter.all false
set_option maxRecDepth 100000
set_option maxHeartbeats 0
namespace G
open PySem PySem.Spec PyProof.Rows L2 Sh He
def dd (x : Str) (st : Stmt) : DefD := ⟨(x, none), x, x, defArgs st, defBody st, defScope st, [], []⟩
def dm (C m qual : Str) (st : Stmt) : DefD := ⟨(C, some m), m, qual, defArgs st, defBody st, defScope st, [], []⟩
def fnL : List DefD := ([dd "look_shape" T.s_look_shape, dd "turn_once" T.s_turn_once, dd "turned" T.s_turned, dd "cells" T.s_cells, dd "turns_of" T.s_turns_of, dd "look_packing" T.s_look_packing, dd "spots" T.s_spots, dd "packing" T.s_packing, dd "laid" T.s_laid, dd "ways" T.s_ways, dd "count_ways" T.s_count_ways, dm "Pile" "__init__" "Pile.__init__" T.s_Pile_init, dm "Pile" "told" "Pile.told" T.s_Pile_told, dm "Bag" "__init__" "Bag.__init__" T.s_Bag_init, dm "Bag" "cells_of" "Bag.cells_of" T.s_Bag_cells_of, dm "Bag" "is_free" "Bag.is_free" T.s_Bag_is_free, dm "Bag" "fits" "Bag.fits" T.s_Bag_fits, dm "Bag" "look_many" "Bag.look_many" T.s_Bag_look_many, dm "Bag" "lay" "Bag.lay" T.s_Bag_lay, dm "Bag" "lift" "Bag.lift" T.s_Bag_lift, dm "Bag" "put" "Bag.put" T.s_Bag_put, dm "Bag" "need" "Bag.need" T.s_Bag_need, dm "Bag" "pile" "Bag.pile" T.s_Bag_pile, dm "Bag" "numbers" "Bag.numbers" T.s_Bag_numbers, dm "Bag" "place_of" "Bag.place_of" T.s_Bag_place_of, dm "Bag" "at" "Bag.at" T.s_Bag_at, dm "Bag" "take" "Bag.take" T.s_Bag_take, dm "Bag" "pile_up" "Bag.pile_up" T.s_Bag_pile_up, dm "Bag" "join" "Bag.join" T.s_Bag_join, dm "Bag" "weight" "Bag.weight" T.s_Bag_weight] : List DefD) ++
  ([dm "Bag" "free" "Bag.free" T.s_Bag_free, dd "look_name" T.s_look_name, dm "Book" "__init__" "Book.__init__" T.s_Book_init, dm "Book" "add" "Book.add" T.s_Book_add, dm "Book" "need" "Book.need" T.s_Book_need, dm "Book" "names" "Book.names" T.s_Book_names, dm "Book" "shape" "Book.shape" T.s_Book_shape, dm "Book" "most" "Book.most" T.s_Book_most, dm "Book" "turns" "Book.turns" T.s_Book_turns, dm "Book" "weight" "Book.weight" T.s_Book_weight, dd "first_place" T.s_first_place, dd "look_many" T.s_look_many, dd "add" T.s_add, dd "_law_cell" T.s_law_cell, dd "_law_mix" T.s_law_mix, dd "_law_draw" T.s_law_draw, dd "_law_shape" T.s_law_shape, dd "law" T.s_law] : List DefD)
def faL : List Fa := ([.int "MOST_SIDE_shapes" 4, .str "CELL" "#", .str "GAP" ".", .int "MOST_SHAPES" 5, .int "MOST_COUNTED" 4, .int "MOST_SIDE_packing" 4, .int "MOST_SIDE_bags" 10, .str "SMALL" "abcdefghijklmnopqrstuvwxyz", .int "MOST_NAME" 8, .int "MOST_PILE" 99, .int "MOST_WEIGHT" 999, .int "MOST_KINDS" 30, .exc "BadShape", .exc "BadKind", .exc "BadNumber", .exc "BadPlace", .exc "BadPile", .glo "BagError", .glo "BadShape", .glo "BadKind", .glo "BadNumber", .glo "BadPlace", .glo "BadPile", .glo "Pile", .glo "Bag", .glo "Book", .glo "look_shape", .glo "turn_once", .glo "turned", .glo "cells"] : List Fa) ++
  ([.glo "turns_of", .glo "look_packing", .glo "spots", .glo "packing", .glo "laid", .glo "ways", .glo "count_ways", .glo "look_name", .glo "first_place", .glo "look_many", .glo "add", .glo "_law_cell", .glo "_law_mix", .glo "_law_draw", .glo "_law_shape", .glo "law", .cls "Pile", .noat "Pile" "kind", .noat "Pile" "many", .noat "Pile" "turn", .noat "Pile" "row", .noat "Pile" "column", .mkr "Pile", .cls "Bag", .noat "Bag" "book", .noat "Bag" "rows", .noat "Bag" "columns", .noat "Bag" "piles", .noat "Bag" "last", .noat "Bag" "grid"] : List Fa) ++
  ([.mkr "Bag", .cls "Book", .noat "Book" "rows", .mkr "Book", .meth "Pile" "told", .meth "Bag" "cells_of", .meth "Bag" "is_free", .meth "Bag" "fits", .meth "Bag" "look_many", .meth "Bag" "lay", .meth "Bag" "lift", .meth "Bag" "put", .meth "Bag" "need", .meth "Bag" "pile", .meth "Bag" "numbers", .meth "Bag" "place_of", .meth "Bag" "at", .meth "Bag" "take", .meth "Bag" "pile_up", .meth "Bag" "join", .meth "Bag" "weight", .meth "Bag" "free", .meth "Book" "add", .meth "Book" "need", .meth "Book" "names", .meth "Book" "shape", .meth "Book" "most", .meth "Book" "turns", .meth "Book" "weight", .free "ValueError"] : List Fa) ++
  ([.free "all", .free "any", .free "int", .free "len", .free "max", .free "min", .free "range", .free "set", .free "sorted", .free "sum", .free "tuple"] : List Fa)
def exL (K : PySem.W.Frag) : Bool := errsB [] K && bmB K (ga K "Bag") "place_of"
abbrev RowL : PySem.W.OpenRow := PySem.W.OpenLaw.row PySem.Challenge.rw_cellbag_k51_whole_packed_in_bags
abbrev hkL : PySem.W.Hook := hookE 5 faL fnL (exL)
def obL (s : PySem.W.SharedT) : AlE := obsE 5 faL fnL (exL) (HandSHeadRun.getT s)
theorem obL_eq (s : PySem.W.SharedT) : obL s = hkL.obs s.abs := obsE_eq (HandSHeadRun.getT_eq s)
def looseL : List Str := (["_wall", "BagError", "BadShape", "BadKind", "BadNumber", "BadPlace", "BadPile", "MOST_SIDE_shapes", "CELL", "GAP", "look_shape", "turn_once", "turned", "cells", "turns_of", "MOST_SHAPES", "MOST_COUNTED", "MOST_SIDE_packing", "look_packing", "spots", "packing", "laid", "ways", "count_ways", "MOST_SIDE_bags", "Pile", "Bag", "SMALL", "MOST_NAME", "MOST_PILE"] : List Str) ++
  (["MOST_WEIGHT", "MOST_KINDS", "look_name", "Book", "first_place", "look_many", "add", "_law_cell", "_law_mix", "_law_draw", "_law_shape"] : List Str)
theorem runL (w : World) : HandSHeadRun.RunEq RowL (PySem.W.view RowL.prog [48]) hkL obL 10000 looseL w := by
  intro os
  kernel_rfl
end G
end

section
set_option Elab.async false
set_option linter.all false
set_option maxRecDepth 100000
set_option maxHeartbeats 4000000
/-! Data as a whole over the hand layer: what an expression is worth, what a block leaves, without a heap in sight. -/
namespace G
open PySem L2

/-! ### three parts of the heap: data that never changes, own lists of the frame, the rest -/
structure Ok (F L R H : Hp) : Prop where
  f : Same F H
  l : Same L H
  r : Same R H
  fl : ∀ a, F a = none ∨ L a = none
  fr : ∀ a, F a = none ∨ R a = none
  lr : ∀ a, L a = none ∨ R a = none

theorem none_of_same {F H : Hp} {p : Addr} (s : Same F H) (h : H p = none) : F p = none := s.free h
theorem same_new {F : Hp} {p : Addr} {o : HO} (h : F p = none) : Same F (upd F p o) := fun a u e => by
  rw [upd_ne (ne_of_none e h)]
  exact e
theorem same_upd2 {F H : Hp} {p : Addr} {o : HO} (s : Same F H) : Same (upd F p o) (upd H p o) := fun a u e => by
  by_cases h : a = p
  · subst h
    rw [upd_same] at e ⊢
    exact e
  · rw [upd_ne h] at e ⊢
    exact s a u e
theorem same_upd1 {F H : Hp} {p : Addr} {o : HO} (s : Same F H) (h : F p = none) : Same F (upd H p o) := fun a u e => by
  rw [upd_ne (ne_of_none e h)]
  exact s a u e
theorem or_upd {F L : Hp} {p : Addr} {o : HO} (d : ∀ a, F a = none ∨ L a = none) (h : L p = none) : ∀ a, (upd F p o) a = none ∨ L a = none := fun a => by
  by_cases e : a = p
  · subst e
    exact .inr h
  · rw [upd_ne e]
    exact d a
theorem or_upd2 {F L : Hp} {p : Addr} {o : HO} (d : ∀ a, F a = none ∨ L a = none) (h : F p = none) : ∀ a, F a = none ∨ (upd L p o) a = none := fun a => by
  by_cases e : a = p
  · subst e
    exact .inl h
  · rw [upd_ne e]
    exact d a
section
variable {F L R H : Hp} {p : Addr} {o o' : HO}
theorem Ok.newF (k : Ok F L R H) (h : H p = none) : Ok (upd F p o) L R (upd H p o) :=
  ⟨same_upd2 k.f, same_upd1 k.l (k.l.free h), same_upd1 k.r (k.r.free h), or_upd k.fl (k.l.free h), or_upd k.fr (k.r.free h), k.lr⟩
theorem Ok.newL (k : Ok F L R H) (h : H p = none) : Ok F (upd L p o) R (upd H p o) :=
  ⟨same_upd1 k.f (k.f.free h), same_upd2 k.l, same_upd1 k.r (k.r.free h), or_upd2 k.fl (k.f.free h), k.fr, or_upd k.lr (k.r.free h)⟩
theorem Ok.newR (k : Ok F L R H) (h : H p = none) : Ok F L (upd R p o) (upd H p o) :=
  ⟨same_upd1 k.f (k.f.free h), same_upd1 k.l (k.l.free h), same_upd2 k.r, k.fl, or_upd2 k.fr (k.f.free h), or_upd2 k.lr (k.l.free h)⟩
theorem none_l {A B : Hp} (d : ∀ a, A a = none ∨ B a = none) (h : B p = some o) : A p = none := by
  rcases d p with e | e
  · exact e
  · rw [h] at e
    cases e
theorem none_r {A B : Hp} (d : ∀ a, A a = none ∨ B a = none) (h : A p = some o) : B p = none := by
  rcases d p with e | e
  · rw [h] at e
    cases e
  · exact e
theorem Ok.setL (k : Ok F L R H) (h : L p = some o) : Ok F (upd L p o') R (upd H p o') :=
  ⟨same_upd1 k.f (none_l k.fl h), same_upd2 k.l, same_upd1 k.r (none_r k.lr h), or_upd2 k.fl (none_l k.fl h), k.fr, or_upd k.lr (none_r k.lr h)⟩
theorem Ok.setR (k : Ok F L R H) (h : R p = some o) : Ok F L (upd R p o') (upd H p o') :=
  ⟨same_upd1 k.f (none_l k.fr h), same_upd1 k.l (none_l k.lr h), same_upd2 k.r, k.fl, or_upd2 k.fr (none_l k.fr h), or_upd2 k.lr (none_l k.lr h)⟩
def del (L : Hp) (p : Addr) : Hp := fun a => if a = p then none else L a
theorem del_same : del L p p = none := by
  unfold del
  rw [if_pos rfl]
theorem del_ne {a : Addr} (h : a ≠ p) : del L p a = L a := by
  unfold del
  rw [if_neg h]
/-- an own list is given away: data from now on -/
theorem Ok.freeze (k : Ok F L R H) (h : L p = some o) : Ok (upd F p o) (del L p) R H := by
  refine ⟨fun a u e => ?_, fun a u e => ?_, k.r, fun a => ?_, or_upd k.fr (none_r k.lr h), fun a => ?_⟩
  · by_cases q : a = p
    · subst q
      rw [upd_same] at e
      cases e
      exact k.l _ _ h
    · rw [upd_ne q] at e
      exact k.f a u e
  · by_cases q : a = p
    · subst q
      rw [del_same] at e
      cases e
    · rw [del_ne q] at e
      exact k.l a u e
  · by_cases q : a = p
    · subst q
      exact .inr del_same
    · rw [upd_ne q, del_ne q]
      exact k.fl a
  · by_cases q : a = p
    · subst q
      exact .inl del_same
    · rw [del_ne q]
      exact k.lr a
end

/-! ### data -/
mutual
inductive Rp (F : Hp) : V → PyData → Prop
  | non : Rp F .non .none
  | bl (b : Bool) : Rp F (.bl b) (.bool b)
  | int (i : Int) : Rp F (.int i) (.int i)
  | str (x : Str) : Rp F (.str x) (.str x)
  | lst {a : Addr} {xs : List V} {ds : List PyData} : F a = some (.lst xs) → RpA F xs ds → Rp F (.ref a) (.list ds)
  | tup {a : Addr} {xs : List V} {ds : List PyData} : F a = some (.tup xs) → RpA F xs ds → Rp F (.ref a) (.tuple ds)
inductive RpA (F : Hp) : List V → List PyData → Prop
  | nil : RpA F [] []
  | cons {v : V} {vs : List V} {d : PyData} {ds : List PyData} : Rp F v d → RpA F vs ds → RpA F (v :: vs) (d :: ds)
end
mutual
theorem Rp.mono {F F' : Hp} (s : Same F F') : ∀ {v : V} {d : PyData}, Rp F v d → Rp F' v d
  | _, _, .non => .non
  | _, _, .bl b => .bl b
  | _, _, .int i => .int i
  | _, _, .str x => .str x
  | _, _, .lst h r => .lst (s _ _ h) (RpA.mono s r)
  | _, _, .tup h r => .tup (s _ _ h) (RpA.mono s r)
theorem RpA.mono {F F' : Hp} (s : Same F F') : ∀ {vs : List V} {ds : List PyData}, RpA F vs ds → RpA F' vs ds
  | _, _, .nil => .nil
  | _, _, .cons h r => .cons (Rp.mono s h) (RpA.mono s r)
end
mutual
theorem Rp.dp {K : PySem.W.Frag} {F H : Hp} (s : Same F H) : ∀ {v : V} {d : PyData}, Rp F v d → Dp K H v d
  | _, _, .non => .non
  | _, _, .bl b => .bl b
  | _, _, .int i => .int i
  | _, _, .str x => .str x
  | _, _, .lst h r => .lst (SqL.of (s _ _ h)) (RpA.dp s r)
  | _, _, .tup h r => .tup (SqT.of (s _ _ h)) (RpA.dp s r)
theorem RpA.dp {K : PySem.W.Frag} {F H : Hp} (s : Same F H) : ∀ {vs : List V} {ds : List PyData}, RpA F vs ds → DpAll K H vs ds
  | _, _, .nil => .nil
  | _, _, .cons h r => .cons (Rp.dp s h) (RpA.dp s r)
end
theorem RpA.length {F : Hp} : ∀ {vs : List V} {ds : List PyData}, RpA F vs ds → vs.length = ds.length
  | _, _, .nil => rfl
  | _, _, .cons _ r => by rw [List.length_cons, List.length_cons, RpA.length r]
theorem RpA.append {F : Hp} {ws : List V} {es : List PyData} (q : RpA F ws es) : ∀ {vs : List V} {ds : List PyData}, RpA F vs ds → RpA F (vs ++ ws) (ds ++ es)
  | _, _, .nil => q
  | _, _, .cons h r => .cons h (RpA.append q r)
theorem RpA.get {F : Hp} : ∀ {vs : List V} {ds : List PyData} {i : Nat} {d : PyData}, RpA F vs ds → ds[i]? = some d → ∃ v, vs[i]? = some v ∧ Rp F v d
  | _, _, _, _, .nil, e => by simp at e
  | _, _, 0, _, .cons h r, e => by
    simp only [List.getElem?_cons_zero, Option.some.injEq] at e
    subst e
    exact ⟨_, rfl, h⟩
  | _, _, i + 1, _, .cons h r, e => by
    obtain ⟨v, h1, h2⟩ := RpA.get (i := i) r (by simpa using e)
    exact ⟨v, by simpa using h1, h2⟩
theorem RpA.getV {F : Hp} : ∀ {vs : List V} {ds : List PyData} {i : Nat} {v : V}, RpA F vs ds → vs[i]? = some v → ∃ d, ds[i]? = some d ∧ Rp F v d
  | _, _, _, _, .nil, e => by simp at e
  | _, _, 0, _, .cons h r, e => by
    simp only [List.getElem?_cons_zero, Option.some.injEq] at e
    subst e
    exact ⟨_, rfl, h⟩
  | _, _, i + 1, _, .cons h r, e => by
    obtain ⟨v, h1, h2⟩ := RpA.getV (i := i) r (by simpa using e)
    exact ⟨v, by simpa using h1, h2⟩
theorem RpA.reverse {F : Hp} : ∀ {vs : List V} {ds : List PyData}, RpA F vs ds → RpA F vs.reverse ds.reverse
  | _, _, .nil => .nil
  | _, _, .cons h r => by
    rw [List.reverse_cons, List.reverse_cons]
    exact RpA.append (.cons h .nil) (RpA.reverse r)
theorem RpA.ints {F : Hp} : ∀ {vs : List V} {ns : List Int}, RpA F vs (ns.map PyData.int) → vs = ns.map V.int
  | _, [], .nil => rfl
  | _, n :: ns, .cons h r => by
    cases h
    rw [RpA.ints r]
    rfl
theorem RpA.strs {F : Hp} : ∀ {vs : List V} {ns : List Str}, RpA F vs (ns.map PyData.str) → vs = ns.map V.str
  | _, [], .nil => rfl
  | _, n :: ns, .cons h r => by
    cases h
    rw [RpA.strs r]
    rfl
theorem RpA.bls {F : Hp} : ∀ {vs : List V} {ns : List Bool}, RpA F vs (ns.map PyData.bool) → vs = ns.map V.bl
  | _, [], .nil => rfl
  | _, n :: ns, .cons h r => by
    cases h
    rw [RpA.bls r]
    rfl

/-! ### slots -/
/-- a caught exception of the class c stands at a -/
def ExH (c : Value) (a : Addr) : HO := .ext fun h => ∃ (oe : Obj) (vs : Array Value), h.get? a = some oe ∧ Zc c none oe ∧ oe.data = .fields vs
inductive Sv where
  /-- data -/
  | d (x : PyData)
  /-- a list of the frame's own, which it may still change -/
  | own (ds : List PyData)
  /-- this very value -/
  | raw (v : V)
  /-- a caught exception of the class at C -/
  | exc (C : Addr)
abbrev Rho := List (Option Sv)
def RpS (F L : Hp) (v : V) : Sv → Prop
  | .d x => Rp F v x
  | .own ds => ∃ p vs, v = .ref p ∧ L p = some (.lst vs) ∧ RpA F vs ds
  | .raw u => v = u
  | .exc C => ∃ a, v = .ref a ∧ F a = some (ExH (.ref C) a)
structure Sg (F L : Hp) (σ : St) (ρ : Rho) : Prop where
  at_ : ∀ (i : Nat) (sv : Sv), ρ[i]? = some (some sv) → ∃ v, σ[i]? = some (some v) ∧ RpS F L v sv
  inj : ∀ (i j : Nat) (ds es : List PyData) (p : Addr), ρ[i]? = some (some (.own ds)) → ρ[j]? = some (some (.own es)) → σ[i]? = some (some (.ref p)) → σ[j]? = some (some (.ref p)) → i = j
  len : σ.length = ρ.length
theorem RpS.mono {F F' L : Hp} {v : V} {sv : Sv} (s : Same F F') (h : RpS F L v sv) : RpS F' L v sv := by
  cases sv with
  | d x => exact Rp.mono s h
  | own ds =>
    obtain ⟨p, vs, e, h1, h2⟩ := h
    exact ⟨p, vs, e, h1, h2.mono s⟩
  | raw u => exact h
  | exc C =>
    obtain ⟨a, e, h1⟩ := h
    exact ⟨a, e, s _ _ h1⟩
theorem Sg.mono {F F' L : Hp} {σ : St} {ρ : Rho} (s : Same F F') (g : Sg F L σ ρ) : Sg F' L σ ρ :=
  ⟨fun i sv h => let ⟨v, h1, h2⟩ := g.at_ i sv h; ⟨v, h1, h2.mono s⟩, g.inj, g.len⟩
theorem Sg.data {F L : Hp} {σ : St} {ρ : Rho} (g : Sg F L σ ρ) {i : Nat} {d : PyData} (h : ρ[i]? = some (some (.d d))) : ∃ v, σ[i]? = some (some v) ∧ Rp F v d := g.at_ i _ h
def isOwn : Sv → Bool
  | .own _ => true
  | _ => false
theorem Sg.set {F L : Hp} {σ : St} {ρ : Rho} (g : Sg F L σ ρ) (i : Nat) {v : V} {sv : Sv} (h : RpS F L v sv) (hn : isOwn sv = false) : Sg F L (σ.set i (some v)) (ρ.set i (some sv)) := by
  refine ⟨fun j sw e => ?_, fun j k ds es p e1 e2 e3 e4 => ?_, by rw [List.length_set, List.length_set, g.len]⟩
  · by_cases hj : i = j
    · subst hj
      by_cases hl : i < ρ.length
      · rw [List.getElem?_set_self hl] at e
        cases e
        exact ⟨v, List.getElem?_set_self (by rw [g.len]; exact hl), h⟩
      · rw [List.getElem?_eq_none (by rw [List.length_set]; omega)] at e
        cases e
    · rw [List.getElem?_set_ne hj] at e ⊢
      exact g.at_ j sw e
  · have no : ∀ (m : Nat) (xs : List PyData), (ρ.set i (some sv))[m]? = some (some (.own xs)) → m ≠ i := fun m xs e q => by
      subst q
      by_cases hl : m < ρ.length
      · rw [List.getElem?_set_self hl] at e
        cases e
        cases hn
      · rw [List.getElem?_eq_none (by rw [List.length_set]; omega)] at e
        cases e
    have n1 := no j ds e1
    have n2 := no k es e2
    rw [List.getElem?_set_ne (fun z => n1 z.symm)] at e1 e3
    rw [List.getElem?_set_ne (fun z => n2 z.symm)] at e2 e4
    exact g.inj j k ds es p e1 e2 e3 e4
theorem Sg.setD {F L : Hp} {σ : St} {ρ : Rho} (g : Sg F L σ ρ) (i : Nat) {v : V} {d : PyData} (h : Rp F v d) : Sg F L (σ.set i (some v)) (ρ.set i (some (.d d))) := g.set i (sv := .d d) h rfl
/-- a slot is forgotten -/
theorem Sg.drop {F L : Hp} {σ : St} {ρ : Rho} (g : Sg F L σ ρ) (i : Nat) (o : Option V) : Sg F L (σ.set i o) (ρ.set i none) := by
  have no : ∀ (m : Nat) (sv : Sv), (ρ.set i none)[m]? = some (some sv) → m ≠ i := fun m sv e q => by
    subst q
    by_cases hl : m < ρ.length
    · rw [List.getElem?_set_self hl] at e
      cases e
    · rw [List.getElem?_eq_none (by rw [List.length_set]; omega)] at e
      cases e
  refine ⟨fun j sw e => ?_, fun j k ds es p e1 e2 e3 e4 => ?_, by rw [List.length_set, List.length_set, g.len]⟩
  · have n := no j sw e
    rw [List.getElem?_set_ne (fun z => n z.symm)] at e ⊢
    exact g.at_ j sw e
  · have n1 := no j _ e1
    have n2 := no k _ e2
    rw [List.getElem?_set_ne (fun z => n1 z.symm)] at e1 e3
    rw [List.getElem?_set_ne (fun z => n2 z.symm)] at e2 e4
    exact g.inj j k ds es p e1 e2 e3 e4
def wipeR (ρ : Rho) : List Nat → Rho
  | [] => ρ
  | v :: vs => (wipeR ρ vs).set v none
theorem Sg.wipe {F L : Hp} {σ : St} {ρ : Rho} (g : Sg F L σ ρ) : ∀ vs : List Nat, Sg F L (wipe σ vs) (wipeR ρ vs)
  | [] => g
  | v :: vs => (Sg.wipe g vs).drop v none
/-- fewer slots are known -/
theorem Sg.less {F L : Hp} {σ : St} {ρ ρ' : Rho} (g : Sg F L σ ρ) (hl : ρ'.length = ρ.length) (h : ∀ (i : Nat) (sv : Sv), ρ'[i]? = some (some sv) → ρ[i]? = some (some sv)) : Sg F L σ ρ' :=
  ⟨fun i sv e => g.at_ i sv (h i sv e), fun i j ds es p e1 e2 => g.inj i j ds es p (h i _ e1) (h j _ e2), by rw [g.len, hl]⟩
/-- own lists: a new one -/
theorem Sg.setOwn {F L : Hp} {σ : St} {ρ : Rho} (g : Sg F L σ ρ) (i : Nat) {p : Addr} {vs : List V} {ds : List PyData} (hp : L p = none) (h : RpA F vs ds) : Sg F (upd L p (.lst vs)) (σ.set i (some (.ref p))) (ρ.set i (some (.own ds))) := by
  have lift : ∀ (v : V) (sv : Sv), RpS F L v sv → RpS F (upd L p (.lst vs)) v sv := fun v sv r => by
    cases sv with
    | d x => exact r
    | own es =>
      obtain ⟨q, ws, e, h1, h2⟩ := r
      exact ⟨q, ws, e, by rw [upd_ne (ne_of_none h1 hp)]; exact h1, h2⟩
    | raw u => exact r
    | exc C => exact r
  have far : ∀ (k : Nat) (es : List PyData), ρ[k]? = some (some (.own es)) → σ[k]? = some (some (.ref p)) → False := fun k es e1 e2 => by
    obtain ⟨v, h1, q, ws, e, h2, _⟩ := g.at_ k _ e1
    rw [h1] at e2
    cases e2
    cases e
    rw [hp] at h2
    cases h2
  refine ⟨fun j sw e => ?_, fun j k ds es q e1 e2 e3 e4 => ?_, by rw [List.length_set, List.length_set, g.len]⟩
  · by_cases hj : i = j
    · subst hj
      by_cases hl : i < ρ.length
      · rw [List.getElem?_set_self hl] at e
        cases e
        exact ⟨.ref p, List.getElem?_set_self (by rw [g.len]; exact hl), p, vs, rfl, upd_same, h⟩
      · rw [List.getElem?_eq_none (by rw [List.length_set]; omega)] at e
        cases e
    · rw [List.getElem?_set_ne hj] at e ⊢
      obtain ⟨v, h1, h2⟩ := g.at_ j sw e
      exact ⟨v, h1, lift v sw h2⟩
  · by_cases hj : i = j
    · by_cases hk : i = k
      · rw [← hj, ← hk]
      · subst hj
        by_cases hl : i < σ.length
        · rw [List.getElem?_set_self hl] at e3
          cases e3
          rw [List.getElem?_set_ne hk] at e2 e4
          exact (far k es e2 e4).elim
        · rw [List.getElem?_eq_none (by rw [List.length_set]; omega)] at e3
          cases e3
    · by_cases hk : i = k
      · subst hk
        by_cases hl : i < σ.length
        · rw [List.getElem?_set_self hl] at e4
          cases e4
          rw [List.getElem?_set_ne hj] at e1 e3
          exact (far j ds e1 e3).elim
        · rw [List.getElem?_eq_none (by rw [List.length_set]; omega)] at e4
          cases e4
      · rw [List.getElem?_set_ne hj] at e1 e3
        rw [List.getElem?_set_ne hk] at e2 e4
        exact g.inj j k ds es q e1 e2 e3 e4
/-- .. one that changes -/
theorem Sg.chOwn {F L : Hp} {σ : St} {ρ : Rho} (g : Sg F L σ ρ) (i : Nat) {p : Addr} {vs : List V} {ds es : List PyData} (hi : ρ[i]? = some (some (.own es))) (hs : σ[i]? = some (some (.ref p))) (h : RpA F vs ds) :
    Sg F (upd L p (.lst vs)) σ (ρ.set i (some (.own ds))) := by
  have hl : i < ρ.length := (List.getElem?_eq_some_iff.mp hi).1
  have lift : ∀ (j : Nat) (v : V) (sv : Sv), i ≠ j → ρ[j]? = some (some sv) → σ[j]? = some (some v) → RpS F L v sv → RpS F (upd L p (.lst vs)) v sv := fun j v sv nj e1 e2 r => by
    cases sv with
    | d x => exact r
    | own es' =>
      obtain ⟨q, ws, e, h1, h2⟩ := r
      subst e
      have nq : q ≠ p := fun z => by
        subst z
        exact nj (g.inj i j _ _ _ hi e1 hs e2)
      exact ⟨q, ws, rfl, by rw [upd_ne nq]; exact h1, h2⟩
    | raw u => exact r
    | exc C => exact r
  refine ⟨fun j sw e => ?_, fun j k ds' es' q e1 e2 e3 e4 => ?_, by rw [List.length_set, g.len]⟩
  · by_cases hj : i = j
    · subst hj
      rw [List.getElem?_set_self hl] at e
      cases e
      exact ⟨.ref p, hs, p, vs, rfl, upd_same, h⟩
    · rw [List.getElem?_set_ne hj] at e
      obtain ⟨v, h1, h2⟩ := g.at_ j sw e
      exact ⟨v, h1, lift j v sw hj e h1 h2⟩
  · have f : ∀ (m : Nat) (xs : List PyData), (ρ.set i (some (.own ds)))[m]? = some (some (.own xs)) → ∃ ys, ρ[m]? = some (some (.own ys)) := fun m xs e => by
      by_cases hm : i = m
      · subst hm
        exact ⟨es, hi⟩
      · rw [List.getElem?_set_ne hm] at e
        exact ⟨xs, e⟩
    obtain ⟨y1, h1⟩ := f j _ e1
    obtain ⟨y2, h2⟩ := f k _ e2
    exact g.inj j k y1 y2 q h1 h2 e3 e4
/-- .. one that is given away -/
theorem Sg.freeze {F L : Hp} {σ : St} {ρ : Rho} (g : Sg F L σ ρ) (i : Nat) {p : Addr} {vs : List V} {ds : List PyData} (hF : F p = none) (hi : ρ[i]? = some (some (.own ds))) (hs : σ[i]? = some (some (.ref p))) (hp : L p = some (.lst vs)) (h : RpA F vs ds) :
    Sg (upd F p (.lst vs)) (del L p) σ (ρ.set i (some (.d (.list ds)))) := by
  have sm : Same F (upd F p (.lst vs)) := same_new hF
  have hl : i < ρ.length := (List.getElem?_eq_some_iff.mp hi).1
  refine ⟨fun j sw e => ?_, fun j k ds' es' q e1 e2 e3 e4 => ?_, by rw [List.length_set, g.len]⟩
  · by_cases hj : i = j
    · subst hj
      rw [List.getElem?_set_self hl] at e
      cases e
      exact ⟨.ref p, hs, .lst upd_same (h.mono sm)⟩
    · rw [List.getElem?_set_ne hj] at e
      obtain ⟨v, h1, h2⟩ := g.at_ j sw e
      refine ⟨v, h1, ?_⟩
      cases sw with
      | d x => exact Rp.mono sm h2
      | own es' =>
        obtain ⟨q, ws, e', h3, h4⟩ := h2
        subst e'
        have nq : q ≠ p := fun z => by
          subst z
          exact hj (g.inj i j _ _ _ hi e hs h1)
        exact ⟨q, ws, rfl, by rw [del_ne nq]; exact h3, h4.mono sm⟩
      | raw u => exact h2
      | exc C =>
        obtain ⟨q, e', h3⟩ := h2
        exact ⟨q, e', sm _ _ h3⟩
  · have f : ∀ (m : Nat) (xs : List PyData), (ρ.set i (some (.d (.list ds))))[m]? = some (some (.own xs)) → ρ[m]? = some (some (.own xs)) := fun m xs e => by
      by_cases hm : i = m
      · subst hm
        rw [List.getElem?_set_self hl] at e
        cases e
      · rw [List.getElem?_set_ne hm] at e
        exact e
    exact g.inj j k _ _ q (f j _ e1) (f k _ e2) e3 e4
end G
end

section
set_option Elab.async false
set_option linter.all false
set_option maxRecDepth 100000
set_option maxHeartbeats 4000000
namespace G
open PySem L2

/-! ### readings by meaning: no term of rules is needed -/
section
variable {X : Cx} {Ω : Om}
structure wE (X : Cx) (e : Expr) (σ : St) (H : Hp) (Q : VK) : Prop where
  run : ∀ (pins : List (Addr × Obj)) (s : Shared), Inv X pins σ H s → wpAny (model X.prog X.w) X.A (eval e X.env) (EP X pins σ Q) X.xe s
structure wT (X : Cx) (e : Expr) (σ : St) (H : Hp) (Q : Bool → Hp → Prop) : Prop where
  run : ∀ (pins : List (Addr × Obj)) (s : Shared), Inv X pins σ H s → wpAny (model X.prog X.w) X.A (isTrue e X.env (eval e X.env)) (TP X pins σ Q) X.xe s
structure wW (X : Cx) (e : Expr) (σ : St) (H : Hp) (Q : Bool → Hp → Prop) : Prop where
  run : ∀ (whole : Sem Value) (pins : List (Addr × Obj)) (s : Shared), Inv X pins σ H s → wpAny (model X.prog X.w) X.A (isTrue e X.env whole) (TP X pins σ Q) X.xe s
structure wA (X : Cx) (es : List Expr) (σ : St) (H : Hp) (Q : List V → Hp → Prop) : Prop where
  run : ∀ (pos : Pos) (pins : List (Addr × Obj)) (s : Shared), Inv X pins σ H s → wpAny (model X.prog X.w) X.A (spliced (backTo pos (starEach es X.env))) (AP X pins σ Q) X.xe s
structure wS (X : Cx) (st : Stmt) (D : Ends) (σ : St) (H : Hp) : Prop where
  run : ∀ (pins : List (Addr × Obj)) (s : Shared), Inv X pins σ H s → wpAny (model X.prog X.w) X.A (exec st X.env) (SP X pins D) X.xe s
structure wB (X : Cx) (st : List Stmt) (D : Ends) (σ : St) (H : Hp) : Prop where
  run : ∀ (pins : List (Addr × Obj)) (s : Shared), Inv X pins σ H s → wpAny (model X.prog X.w) X.A (execs st X.env) (SP X pins D) X.xe s
structure wG (X : Cx) (tg : Expr) (v : V) (σ : St) (H : Hp) (Q : St → Hp → Prop) : Prop where
  run : ∀ (pins : List (Addr × Obj)) (s : Shared) (u : Value), Inv X pins σ H s → RelV v u → wpAny (model X.prog X.w) X.A (assign tg X.env u) (fun _ s' => ∃ σ' H', Inv X pins σ' H' s' ∧ Q σ' H') X.xe s
structure wI (X : Cx) (tg iter : Expr) (σ : St) (H : Hp) (R : It → Hp → Prop) : Prop where
  run : ∀ (pins : List (Addr × Obj)) (s : Shared), Inv X pins σ H s → wpAny (model X.prog X.w) X.A (eval iter X.env) (fun v s1 => wpAny (model X.prog X.w) X.A (pyIter v) (PIE X pins σ tg R) X.xe s1) X.xe s
theorem pe_w (e : Expr) : PE X e (wE X e) := ⟨fun pins s _ _ _ I h => h.run pins s I⟩
theorem pt_w (e : Expr) : PT X e (wT X e) := ⟨fun pins s _ _ _ I h => h.run pins s I⟩
theorem pw_w (e : Expr) : PW X e (wW X e) := ⟨fun whole pins s _ _ _ I h => h.run whole pins s I⟩
theorem pa_w (es : List Expr) : PA X es (wA X es) := ⟨fun pos pins s _ _ _ I h => h.run pos pins s I⟩
theorem ps_w (st : Stmt) : PS X st (wS X st) := ⟨fun pins s _ _ _ I h => h.run pins s I⟩
theorem pb_w (st : List Stmt) : PSs X st (wB X st) := ⟨fun pins s _ _ _ I h => h.run pins s I⟩
theorem pg_w (tg : Expr) : PG X tg (wG X tg) := ⟨fun pins s _ _ _ u _ I r h => h.run pins s u I r⟩
theorem pi_w (tg iter : Expr) : PI X tg iter (wI X tg iter) := ⟨fun pins s _ _ _ I h => h.run pins s I⟩
theorem toE {e : Expr} {t : TE} {σ : St} {H : Hp} {Q : VK} (h : PE X e t) (q : t σ H Q) : wE X e σ H Q := ⟨fun pins s I => h.run pins s σ H Q I q⟩
theorem toT {e : Expr} {t : TT} {σ : St} {H : Hp} {Q : Bool → Hp → Prop} (h : PT X e t) (q : t σ H Q) : wT X e σ H Q := ⟨fun pins s I => h.run pins s σ H Q I q⟩
theorem toW {e : Expr} {t : TT} {σ : St} {H : Hp} {Q : Bool → Hp → Prop} (h : PW X e t) (q : t σ H Q) : wW X e σ H Q := ⟨fun whole pins s I => h.run whole pins s σ H Q I q⟩
theorem toA {e : List Expr} {t : TA} {σ : St} {H : Hp} {Q : List V → Hp → Prop} (h : PA X e t) (q : t σ H Q) : wA X e σ H Q := ⟨fun pos pins s I => h.run pos pins s σ H Q I q⟩
theorem toS {e : Stmt} {t : TS} {σ : St} {H : Hp} {D : Ends} (h : PS X e t) (q : t D σ H) : wS X e D σ H := ⟨fun pins s I => h.run pins s σ H D I q⟩
theorem toB {e : List Stmt} {t : TS} {σ : St} {H : Hp} {D : Ends} (h : PSs X e t) (q : t D σ H) : wB X e D σ H := ⟨fun pins s I => h.run pins s σ H D I q⟩
theorem toG {e : Expr} {t : TG} {v : V} {σ : St} {H : Hp} {Q : St → Hp → Prop} (h : PG X e t) (q : t v σ H Q) : wG X e v σ H Q := ⟨fun pins s u I r => h.run pins s σ H v u Q I r q⟩
theorem toI {tg e : Expr} {t : TI} {σ : St} {H : Hp} {Q : It → Hp → Prop} (h : PI X tg e t) (q : t σ H Q) : wI X tg e σ H Q := ⟨fun pins s I => h.run pins s σ H Q I q⟩
end

/-! ### what an expression is worth -/
/-- what holds of the rest, wherever data grow -/
structure Om where
  I : Hp → Hp → Prop
  mono : ∀ {F F' R : Hp}, Same F F' → I F R → I F' R
def om0 : Om := ⟨fun _ _ => True, fun _ h => h⟩
/-- what holds of a value that comes: data d, nothing else is touched -/
def To (F L R : Hp) (d : PyData) (Q : VK) : Prop := ∀ v F' H', Same F F' → Ok F' L R H' → Rp F' v d → Q v H'
/-- .. or the rest moves, and what holds of it holds still -/
def ToO (Ω : Om) (F L : Hp) (d : PyData) (Q : VK) : Prop := ∀ v F' R' H', Same F F' → Ω.I F' R' → Ok F' L R' H' → Rp F' v d → Q v H'
theorem ToO.to {Ω : Om} {F L R : Hp} {d : PyData} {Q : VK} (q : ToO Ω F L d Q) (o : Ω.I F R) : To F L R d Q := fun v F' H' s k r => q v F' R H' s (Ω.mono s o) k r
theorem ToO.same {Ω : Om} {F F1 L : Hp} {d : PyData} {Q : VK} (s : Same F F1) (q : ToO Ω F L d Q) : ToO Ω F1 L d Q := fun v F' R' H' s' => q v F' R' H' (s.trans s')
theorem ToO.here {Ω : Om} {F L R H : Hp} {d : PyData} {Q : VK} {v : V} (q : ToO Ω F L d Q) (o : Ω.I F R) (k : Ok F L R H) (r : Rp F v d) : Q v H := q v F R H (Same.refl F) o k r
def Ev (X : Cx) (Ω : Om) (ρ : Rho) (e : Expr) (d : PyData) : Prop := ∀ F L R H σ, Sg F L σ ρ → Ω.I F R → Ok F L R H → ∀ Q : VK, ToO Ω F L d Q → wE X e σ H Q
def EvT (X : Cx) (Ω : Om) (ρ : Rho) (e : Expr) (b : Bool) : Prop := ∀ F L R H σ, Sg F L σ ρ → Ω.I F R → Ok F L R H → ∀ Q : Bool → Hp → Prop, (∀ F' R' H', Same F F' → Ω.I F' R' → Ok F' L R' H' → Q b H') → wT X e σ H Q
def EvW (X : Cx) (Ω : Om) (ρ : Rho) (e : Expr) (b : Bool) : Prop := ∀ F L R H σ, Sg F L σ ρ → Ω.I F R → Ok F L R H → ∀ Q : Bool → Hp → Prop, (∀ F' R' H', Same F F' → Ω.I F' R' → Ok F' L R' H' → Q b H') → wW X e σ H Q
def EvA (X : Cx) (Ω : Om) (ρ : Rho) (es : List Expr) (ds : List PyData) : Prop := ∀ F L R H σ, Sg F L σ ρ → Ω.I F R → Ok F L R H → ∀ Q : List V → Hp → Prop, (∀ vs F' R' H', Same F F' → Ω.I F' R' → Ok F' L R' H' → RpA F' vs ds → Q vs H') → wA X es σ H Q
/-- an operation on two data; a call on data; a method -/
def OpD (r : R2) (da db d : PyData) : Prop := ∀ F L R H x y, Ok F L R H → Rp F x da → Rp F y db → ∀ Q : VK, To F L R d Q → r x y H Q
def ClD (r : List V → Hp → VK → Prop) (ds : List PyData) (d : PyData) : Prop := ∀ F L R H vs, Ok F L R H → RpA F vs ds → ∀ Q : VK, To F L R d Q → r vs H Q
def MtD (r : V → List V → Hp → VK → Prop) (da : PyData) (ds : List PyData) (d : PyData) : Prop := ∀ F L R H x vs, Ok F L R H → Rp F x da → RpA F vs ds → ∀ Q : VK, To F L R d Q → r x vs H Q
theorem To.same {F F1 L R : Hp} {d : PyData} {Q : VK} (s : Same F F1) (q : To F L R d Q) : To F1 L R d Q := fun v F' H' s' => q v F' H' (s.trans s')
theorem To.here {F L R H : Hp} {d : PyData} {Q : VK} {v : V} (q : To F L R d Q) (k : Ok F L R H) (r : Rp F v d) : Q v H := q v F H (Same.refl F) k r
theorem To.lst {F L R H : Hp} {ds : List PyData} {Q : VK} {vs : List V} (q : To F L R (.list ds) Q) (k : Ok F L R H) (r : RpA F vs ds) : ∀ p, H p = none → Q (.ref p) (upd H p (.lst vs)) := fun p hp => by
  have s : Same F (upd F p (.lst vs)) := same_new (k.f.free hp)
  exact q _ _ _ s (k.newF hp) (.lst upd_same (r.mono s))
theorem To.tup {F L R H : Hp} {ds : List PyData} {Q : VK} {vs : List V} (q : To F L R (.tuple ds) Q) (k : Ok F L R H) (r : RpA F vs ds) : ∀ p, H p = none → Q (.ref p) (upd H p (.tup vs)) := fun p hp => by
  have s : Same F (upd F p (.tup vs)) := same_new (k.f.free hp)
  exact q _ _ _ s (k.newF hp) (.tup upd_same (r.mono s))

section
variable {X : Cx} {Ω : Om} {ρ : Rho} {a b c e : Expr} {pos : Pos} {d da db dc : PyData}
theorem Ev.is {d' : PyData} (h : Ev X Ω ρ e d) (q : d = d') : Ev X Ω ρ e d' := q ▸ h
theorem EvT.is {k k' : Bool} (h : EvT X Ω ρ e k) (q : k = k') : EvT X Ω ρ e k' := q ▸ h
/-! names, constants -/
theorem ev_var (i : Nat) {x : Str} (h : ρ[i]? = some (some (.d d)) := by rfl) (hN : X.N[i]? = some x := by rfl) (hv : Vis X.env.scope x := by first | exact Or.inl rfl | exact Or.inr (Or.inl rfl) | exact Or.inr (Or.inr rfl)) (hd : (x == ("__debug__" : Str)) = false := by decide)
    (hcd : (x == ("__classdict__" : Str)) = false := by decide) : Ev X Ω ρ (.Name x pos) d := fun F L R H σ g om k Q q => by
  obtain ⟨v, h1, h2⟩ := g.data h
  exact toE (pe_var hN hv hd hcd) ⟨v, h1, q.here om k h2⟩
theorem ev_int {i : Int} {j : Nat} : Ev X Ω ρ (.Constant (.int i) j pos) (.int i) := fun F L R H σ g om k Q q => toE pe_int (q.here om k (.int i))
theorem ev_str {x : Str} {j : Nat} : Ev X Ω ρ (.Constant (.str x) j pos) (.str x) := fun F L R H σ g om k Q q => toE pe_str (q.here om k (.str x))
theorem ev_bl {x : Bool} {j : Nat} : Ev X Ω ρ (.Constant (.bool x) j pos) (.bool x) := fun F L R H σ g om k Q q => toE pe_bl (q.here om k (.bl x))
theorem ev_non {j : Nat} : Ev X Ω ρ (.Constant .none j pos) .none := fun F L R H σ g om k Q q => toE pe_non (q.here om k .non)
theorem ev_gint {x : Str} {i : Int} (hm : ∃ t, X.mg x = some (.int i t)) (hg : Gl X x := by rfl) (hd : (x == ("__debug__" : Str)) = false := by decide) : Ev X Ω ρ (.Name x pos) (.int i) := fun F L R H σ g om k Q q => by
  obtain ⟨t, hm⟩ := hm
  exact toE (pe_glob (v := .int i) hg hm ⟨t, rfl⟩ hd) (q.here om k (.int i))
theorem ev_gstr {x z : Str} (hm : ∃ t, X.mg x = some (.str z t)) (hg : Gl X x := by rfl) (hd : (x == ("__debug__" : Str)) = false := by decide) : Ev X Ω ρ (.Name x pos) (.str z) := fun F L R H σ g om k Q q => by
  obtain ⟨t, hm⟩ := hm
  exact toE (pe_glob (v := .str z) hg hm ⟨t, rfl⟩ hd) (q.here om k (.str z))
/-! operators -/
theorem ev_op {op : Operator} {r : R2} (ho : OpR X (binaryOp op) r) (hr : OpD r da db d) (ha : Ev X Ω ρ a da) (hb : Ev X Ω ρ b db) : Ev X Ω ρ (.BinOp a op b pos) d := fun F L R H σ g om k Q q =>
  toE (pe_op ho (pe_w a) (pe_w b)) (ha F L R H σ g om k _ fun x F1 R1 H1 s1 o1 k1 r1 => hb F1 L R1 H1 σ (g.mono s1) o1 k1 _ fun y F2 R2 H2 s2 o2 k2 r2 => hr F2 L R2 H2 x y k2 (r1.mono s2) r2 Q ((q.same (s1.trans s2)).to o2))
theorem ev_cmp {op : CmpOp} {r : R2} (ho : OpR X (compareOp op) r) (hr : OpD r da db d) (ha : Ev X Ω ρ a da) (hb : Ev X Ω ρ b db) (hm : behindInMarks op b = false) : Ev X Ω ρ (.Compare a [op] [b] pos) d := fun F L R H σ g om k Q q =>
  toE (pe_cmpR ho (pe_w a) (pe_w b) hm) (ha F L R H σ g om k _ fun x F1 R1 H1 s1 o1 k1 r1 => hb F1 L R1 H1 σ (g.mono s1) o1 k1 _ fun y F2 R2 H2 s2 o2 k2 r2 => hr F2 L R2 H2 x y k2 (r1.mono s2) r2 Q ((q.same (s1.trans s2)).to o2))
theorem et_cmp {op : CmpOp} {r : R2} {v : Bool} (ho : OpR X (compareOp op) r) (hr : OpD r da db (.bool v)) (ha : Ev X Ω ρ a da) (hb : Ev X Ω ρ b db) (hm : behindInMarks op b = false) : EvT X Ω ρ (.Compare a [op] [b] pos) v := fun F L R H σ g om k Q q =>
  toT (pt_cmpR ho (pe_w a) (pe_w b) hm) (ha F L R H σ g om k _ fun x F1 R1 H1 s1 o1 k1 r1 => hb F1 L R1 H1 σ (g.mono s1) o1 k1 _ fun y F2 R2 H2 s2 o2 k2 r2 => hr F2 L R2 H2 x y k2 (r1.mono s2) r2 _ fun z F3 H3 s3 k3 r3 => by
    cases r3
    exact ⟨v, rfl, q F3 R2 H3 ((s1.trans s2).trans s3) (Ω.mono s3 o2) k3⟩)
theorem od_I0 {g : Int → Int → V} {h : Int → Int → PyData} {i j : Int} (e : ∀ F i j, Rp F (g i j) (h i j)) : OpD (rI0 g) (.int i) (.int j) (h i j) := fun F L R H x y k rx ry Q q => by
  cases rx
  cases ry
  exact ⟨i, j, rfl, rfl, q.here k (e F i j)⟩
theorem od_I {C : Int → Int → Prop} {g : Int → Int → V} {h : Int → Int → PyData} {i j : Int} (e : ∀ F i j, Rp F (g i j) (h i j)) (c : C i j) : OpD (rI C g) (.int i) (.int j) (h i j) := fun F L R H x y k rx ry Q q => by
  cases rx
  cases ry
  exact ⟨i, j, rfl, rfl, c, q.here k (e F i j)⟩
variable {i j : Int}
theorem ev_add (ha : Ev X Ω ρ a (.int i)) (hb : Ev X Ω ρ b (.int j)) : Ev X Ω ρ (.BinOp a .Add b pos) (.int (i + j)) := ev_op op_add (od_I0 (h := fun i j => .int (i + j)) fun _ _ _ => .int _) ha hb
theorem ev_sub (ha : Ev X Ω ρ a (.int i)) (hb : Ev X Ω ρ b (.int j)) : Ev X Ω ρ (.BinOp a .Sub b pos) (.int (i - j)) := ev_op op_sub (od_I0 (h := fun i j => .int (i - j)) fun _ _ _ => .int _) ha hb
theorem ev_mul (ha : Ev X Ω ρ a (.int i)) (hb : Ev X Ω ρ b (.int j)) (c : CMul i j) : Ev X Ω ρ (.BinOp a .Mult b pos) (.int (i * j)) := ev_op op_mul (od_I (h := fun i j => .int (i * j)) (fun _ _ _ => .int _) c) ha hb
theorem ev_fdiv (ha : Ev X Ω ρ a (.int i)) (hb : Ev X Ω ρ b (.int j)) (c : CDiv i j) : Ev X Ω ρ (.BinOp a .FloorDiv b pos) (.int (i / j)) := ev_op op_fdiv (od_I (h := fun i j => .int (i / j)) (fun _ _ _ => .int _) c) ha hb
theorem ev_mod (ha : Ev X Ω ρ a (.int i)) (hb : Ev X Ω ρ b (.int j)) (c : 0 < j) : Ev X Ω ρ (.BinOp a .Mod b pos) (.int (i % j)) := ev_op op_mod (od_I (h := fun i j => .int (i % j)) (fun _ _ _ => .int _) c) ha hb
theorem ev_pow (ha : Ev X Ω ρ a (.int i)) (hb : Ev X Ω ρ b (.int j)) (c : CPow i j) : Ev X Ω ρ (.BinOp a .Pow b pos) (.int (i ^ j.toNat)) := ev_op op_pow (od_I (h := fun i j => .int (i ^ j.toNat)) (fun _ _ _ => .int _) c) ha hb
theorem ev_addS {x y : Str} (ha : Ev X Ω ρ a (.str x)) (hb : Ev X Ω ρ b (.str y)) (c : x.length + y.length ≤ sizeLine) : Ev X Ω ρ (.BinOp a .Add b pos) (.str (x ++ y)) := ev_op op_add_str (fun F L R H v w k rx ry Q q => by
  cases rx
  cases ry
  exact ⟨x, y, rfl, rfl, c, q.here k (.str _)⟩) ha hb
theorem ev_cat {xs ys : List PyData} (ha : Ev X Ω ρ a (.list xs)) (hb : Ev X Ω ρ b (.list ys)) (c : xs.length + ys.length ≤ sizeLine) : Ev X Ω ρ (.BinOp a .Add b pos) (.list (xs ++ ys)) := ev_op op_cat (fun F L R H v w k rx ry Q q => by
  cases rx with
  | lst h1 r1 => cases ry with
    | lst h2 r2 => exact ⟨_, _, _, _, rfl, rfl, k.f _ _ h1, k.f _ _ h2, by rw [r1.length, r2.length]; exact c, q.lst k (RpA.append r2 r1)⟩) ha hb
theorem ev_lt (ha : Ev X Ω ρ a (.int i)) (hb : Ev X Ω ρ b (.int j)) : Ev X Ω ρ (.Compare a [.Lt] [b] pos) (.bool (decide (i < j))) := ev_cmp op_lt (od_I0 (h := fun i j => .bool (decide (i < j))) fun _ _ _ => .bl _) ha hb (nomark _)
theorem ev_le (ha : Ev X Ω ρ a (.int i)) (hb : Ev X Ω ρ b (.int j)) : Ev X Ω ρ (.Compare a [.LtE] [b] pos) (.bool (decide (i ≤ j))) := ev_cmp op_le (od_I0 (h := fun i j => .bool (decide (i ≤ j))) fun _ _ _ => .bl _) ha hb (nomark _)
theorem ev_gt (ha : Ev X Ω ρ a (.int i)) (hb : Ev X Ω ρ b (.int j)) : Ev X Ω ρ (.Compare a [.Gt] [b] pos) (.bool (decide (j < i))) := ev_cmp op_gt (od_I0 (h := fun i j => .bool (decide (j < i))) fun _ _ _ => .bl _) ha hb (nomark _)
theorem et_lt (ha : Ev X Ω ρ a (.int i)) (hb : Ev X Ω ρ b (.int j)) : EvT X Ω ρ (.Compare a [.Lt] [b] pos) (decide (i < j)) := et_cmp op_lt (od_I0 (h := fun i j => .bool (decide (i < j))) fun _ _ _ => .bl _) ha hb (nomark _)
theorem et_le (ha : Ev X Ω ρ a (.int i)) (hb : Ev X Ω ρ b (.int j)) : EvT X Ω ρ (.Compare a [.LtE] [b] pos) (decide (i ≤ j)) := et_cmp op_le (od_I0 (h := fun i j => .bool (decide (i ≤ j))) fun _ _ _ => .bl _) ha hb (nomark _)
theorem et_gt (ha : Ev X Ω ρ a (.int i)) (hb : Ev X Ω ρ b (.int j)) : EvT X Ω ρ (.Compare a [.Gt] [b] pos) (decide (j < i)) := et_cmp op_gt (od_I0 (h := fun i j => .bool (decide (j < i))) fun _ _ _ => .bl _) ha hb (nomark _)
theorem et_ge (ha : Ev X Ω ρ a (.int i)) (hb : Ev X Ω ρ b (.int j)) : EvT X Ω ρ (.Compare a [.GtE] [b] pos) (decide (j ≤ i)) := et_cmp op_ge (od_I0 (h := fun i j => .bool (decide (j ≤ i))) fun _ _ _ => .bl _) ha hb (nomark _)
/-! == and != of data -/
theorem od_eq {K : PySem.W.Frag} (sa : SeqAt.shaped da = true) (sb : SeqAt.shaped db = true) : OpD (rEqD K) da db (.bool (PyData.eqv da db)) := fun F L R H x y k rx ry Q q => ⟨da, db, rx.dp k.f, ry.dp k.f, sa, sb, q.here k (.bl _)⟩
theorem od_ne {K : PySem.W.Frag} (sa : SeqAt.shaped da = true) (sb : SeqAt.shaped db = true) : OpD (rNeD K) da db (.bool (!PyData.eqv da db)) := fun F L R H x y k rx ry Q q => ⟨da, db, rx.dp k.f, ry.dp k.f, sa, sb, q.here k (.bl _)⟩
theorem ev_eq (u : X.A.units + 64 < cLine) (ha : Ev X Ω ρ a da) (hb : Ev X Ω ρ b db) (sa : SeqAt.shaped da = true) (sb : SeqAt.shaped db = true) : Ev X Ω ρ (.Compare a [.Eq] [b] pos) (.bool (PyData.eqv da db)) := ev_cmp (op_eqD u) (od_eq sa sb) ha hb (nomark _)
theorem ev_ne (u : X.A.units + 64 < cLine) (ha : Ev X Ω ρ a da) (hb : Ev X Ω ρ b db) (sa : SeqAt.shaped da = true) (sb : SeqAt.shaped db = true) : Ev X Ω ρ (.Compare a [.NotEq] [b] pos) (.bool (!PyData.eqv da db)) := ev_cmp (op_neD u) (od_ne sa sb) ha hb (nomark _)
theorem et_eq (u : X.A.units + 64 < cLine) (ha : Ev X Ω ρ a da) (hb : Ev X Ω ρ b db) (sa : SeqAt.shaped da = true) (sb : SeqAt.shaped db = true) : EvT X Ω ρ (.Compare a [.Eq] [b] pos) (PyData.eqv da db) := et_cmp (op_eqD u) (od_eq sa sb) ha hb (nomark _)
theorem et_ne (u : X.A.units + 64 < cLine) (ha : Ev X Ω ρ a da) (hb : Ev X Ω ρ b db) (sa : SeqAt.shaped da = true) (sb : SeqAt.shaped db = true) : EvT X Ω ρ (.Compare a [.NotEq] [b] pos) (!PyData.eqv da db) := et_cmp (op_neD u) (od_ne sa sb) ha hb (nomark _)
/-! is None -/
def isNon : PyData → Bool
  | .none => true
  | _ => false
theorem rp_non {F : Hp} {x : V} (r : Rp F x d) : decide (x = .non) = isNon d := by
  cases r <;> simp [isNon]
theorem od_isN : OpD (fun x y H Q => y = .non ∧ Q (.bl (decide (x = .non))) H) d .none (.bool (isNon d)) := fun F L R H x y k rx ry Q q => by
  cases ry
  refine ⟨rfl, ?_⟩
  rw [rp_non rx]
  exact q.here k (.bl _)
theorem od_notN : OpD (fun x y H Q => y = .non ∧ Q (.bl (!decide (x = .non))) H) d .none (.bool (!isNon d)) := fun F L R H x y k rx ry Q q => by
  cases ry
  refine ⟨rfl, ?_⟩
  rw [rp_non rx]
  exact q.here k (.bl _)
theorem ev_isN {n : Nat} {p : Pos} (ha : Ev X Ω ρ a d) : Ev X Ω ρ (.Compare a [.Is] [.Constant .none n p] pos) (.bool (isNon d)) := ev_cmp op_isN od_isN ha ev_non (nomark _)
theorem et_isN {n : Nat} {p : Pos} (ha : Ev X Ω ρ a d) : EvT X Ω ρ (.Compare a [.Is] [.Constant .none n p] pos) (isNon d) := et_cmp op_isN od_isN ha ev_non (nomark _)
theorem ev_notN {n : Nat} {p : Pos} (ha : Ev X Ω ρ a d) : Ev X Ω ρ (.Compare a [.IsNot] [.Constant .none n p] pos) (.bool (!isNon d)) := ev_cmp op_notN od_notN ha ev_non (nomark _)
theorem et_notN {n : Nat} {p : Pos} (ha : Ev X Ω ρ a d) : EvT X Ω ρ (.Compare a [.IsNot] [.Constant .none n p] pos) (!isNon d) := et_cmp op_notN od_notN ha ev_non (nomark _)
/-! in, not in: lists of data; tuples of flat data; one sign in a text -/
theorem ev_in {ds : List PyData} (u : X.A.units + 65 < cLine) (ha : Ev X Ω ρ a d) (hb : Ev X Ω ρ b (.list ds)) (sa : SeqAt.shaped d = true) (sb : SeqAt.shaped (.list ds) = true) (hm : behindInMarks .In b = false := by rfl) : Ev X Ω ρ (.Compare a [.In] [b] pos) (.bool (ds.any fun z => PyData.eqv z d)) :=
  ev_cmp (op_inD u) (fun F L R H x y k rx ry Q q => ⟨d, ds, rx.dp k.f, ry.dp k.f, sa, sb, q.here k (.bl _)⟩) ha hb hm
theorem et_in {ds : List PyData} (u : X.A.units + 65 < cLine) (ha : Ev X Ω ρ a d) (hb : Ev X Ω ρ b (.list ds)) (sa : SeqAt.shaped d = true) (sb : SeqAt.shaped (.list ds) = true) (hm : behindInMarks .In b = false := by rfl) : EvT X Ω ρ (.Compare a [.In] [b] pos) (ds.any fun z => PyData.eqv z d) :=
  et_cmp (op_inD u) (fun F L R H x y k rx ry Q q => ⟨d, ds, rx.dp k.f, ry.dp k.f, sa, sb, q.here k (.bl _)⟩) ha hb hm
theorem ev_notIn {ds : List PyData} (u : X.A.units + 65 < cLine) (ha : Ev X Ω ρ a d) (hb : Ev X Ω ρ b (.list ds)) (sa : SeqAt.shaped d = true) (sb : SeqAt.shaped (.list ds) = true) (hm : behindInMarks .NotIn b = false := by rfl) : Ev X Ω ρ (.Compare a [.NotIn] [b] pos) (.bool (!ds.any fun z => PyData.eqv z d)) :=
  ev_cmp (op_notInD u) (fun F L R H x y k rx ry Q q => ⟨d, ds, rx.dp k.f, ry.dp k.f, sa, sb, q.here k (.bl _)⟩) ha hb hm
theorem et_notIn {ds : List PyData} (u : X.A.units + 65 < cLine) (ha : Ev X Ω ρ a d) (hb : Ev X Ω ρ b (.list ds)) (sa : SeqAt.shaped d = true) (sb : SeqAt.shaped (.list ds) = true) (hm : behindInMarks .NotIn b = false := by rfl) : EvT X Ω ρ (.Compare a [.NotIn] [b] pos) (!ds.any fun z => PyData.eqv z d) :=
  et_cmp (op_notInD u) (fun F L R H x y k rx ry Q q => ⟨d, ds, rx.dp k.f, ry.dp k.f, sa, sb, q.here k (.bl _)⟩) ha hb hm
/-- flat data: None, bools, ints, texts; an int or a text among some of its own kind -/
theorem inV_str (x : Str) : ∀ zs : List Str, inV (.str x) (zs.map V.str) = decide (x ∈ zs)
  | [] => rfl
  | z :: zs => by
    have ih := inV_str x zs
    unfold inV at ih ⊢
    rw [List.map_cons, List.any_cons, ih]
    by_cases h : z = x
    · subst h
      simp [eqV]
    · have h' : ¬ x = z := fun q => h q.symm
      simp [eqV, h, h']
theorem all_flat_str : ∀ zs : List Str, (zs.map V.str).all flatV = true
  | [] => rfl
  | z :: zs => by
    rw [List.map_cons, List.all_cons, all_flat_str zs]
    rfl
theorem od_inT {K : PySem.W.Frag} {x : Str} {zs : List Str} : OpD (rIn K false) (.str x) (.tuple (zs.map PyData.str)) (.bool (decide (x ∈ zs))) := fun F L R H v w k rx ry Q q => by
  cases rx
  cases ry with
  | tup h r =>
    rw [r.strs] at h
    refine ⟨_, _, rfl, .inr (SqT.of (k.f _ _ h)), rfl, all_flat_str zs, ?_⟩
    rw [if_neg Bool.false_ne_true, inV_str]
    exact q.here k (.bl _)
theorem ev_inT {x : Str} {zs : List Str} (ha : Ev X Ω ρ a (.str x)) (hb : Ev X Ω ρ b (.tuple (zs.map PyData.str))) (hm : behindInMarks .In b = false := by rfl) : Ev X Ω ρ (.Compare a [.In] [b] pos) (.bool (decide (x ∈ zs))) := ev_cmp op_in_seq od_inT ha hb hm
theorem et_inT {x : Str} {zs : List Str} (ha : Ev X Ω ρ a (.str x)) (hb : Ev X Ω ρ b (.tuple (zs.map PyData.str))) (hm : behindInMarks .In b = false := by rfl) : EvT X Ω ρ (.Compare a [.In] [b] pos) (decide (x ∈ zs)) := et_cmp op_in_seq od_inT ha hb hm
theorem ev_inC {n : Nat} {z : Str} (ha : Ev X Ω ρ a (.str ⟨#[n]⟩)) (hb : Ev X Ω ρ b (.str z)) (hm : behindInMarks .In b = false := by rfl) : Ev X Ω ρ (.Compare a [.In] [b] pos) (.bool (decide (n ∈ z.cps.toList))) := ev_cmp op_in_sign (fun F L R H x y k rx ry Q q => by
  cases rx
  cases ry
  exact ⟨n, z, rfl, rfl, q.here k (.bl _)⟩) ha hb hm
/-! chains 1 <= x <= y -/
theorem ev_chain {op op' : CmpOp} {r r' : R2} {v v' : Bool} (ho : OpR X (compareOp op) r) (ho' : OpR X (compareOp op') r') (hr : OpD r da db (.bool v)) (hr' : v = true → OpD r' db dc (.bool v')) (ha : Ev X Ω ρ a da) (hb : Ev X Ω ρ b db) (hc : v = true → Ev X Ω ρ c dc) (hm : lastMarks [op, op'] [b, c] = false) :
    Ev X Ω ρ (.Compare a [op, op'] [b, c] pos) (.bool (v && v')) := fun F L R H σ g om k Q q =>
  toE (pe_chain ho ho' (pe_w a) (pe_w b) (pe_w c) hm) (ha F L R H σ g om k _ fun x F1 R1 H1 s1 o1 k1 r1 => hb F1 L R1 H1 σ (g.mono s1) o1 k1 _ fun y F2 R2 H2 s2 o2 k2 r2 => hr F2 L R2 H2 x y k2 (r1.mono s2) r2 _ fun z F3 H3 s3 k3 r3 => by
    cases r3
    refine ⟨v, rfl, ?_⟩
    have s123 := (s1.trans s2).trans s3
    cases v with
    | true =>
      rw [if_pos rfl]
      exact hc rfl F3 L R2 H3 σ (g.mono s123) (Ω.mono s3 o2) k3 _ fun z' F4 R4 H4 s4 o4 k4 r4 => hr' rfl F4 L R4 H4 y z' k4 (r2.mono (s3.trans s4)) r4 Q ((q.same (s123.trans s4)).to o4)
    | false =>
      rw [if_neg Bool.false_ne_true]
      exact q _ _ _ _ s123 (Ω.mono s3 o2) k3 (.bl _))
theorem et_chain {op op' : CmpOp} {r r' : R2} {v v' : Bool} (ho : OpR X (compareOp op) r) (ho' : OpR X (compareOp op') r') (hr : OpD r da db (.bool v)) (hr' : v = true → OpD r' db dc (.bool v')) (ha : Ev X Ω ρ a da) (hb : Ev X Ω ρ b db) (hc : v = true → Ev X Ω ρ c dc) (hm : lastMarks [op, op'] [b, c] = false) :
    EvT X Ω ρ (.Compare a [op, op'] [b, c] pos) (v && v') := fun F L R H σ g om k Q q =>
  toT (pt_chain ho ho' (pe_w a) (pe_w b) (pe_w c) hm) (ha F L R H σ g om k _ fun x F1 R1 H1 s1 o1 k1 r1 => hb F1 L R1 H1 σ (g.mono s1) o1 k1 _ fun y F2 R2 H2 s2 o2 k2 r2 => hr F2 L R2 H2 x y k2 (r1.mono s2) r2 _ fun z F3 H3 s3 k3 r3 => by
    cases r3
    refine ⟨v, rfl, ?_⟩
    have s123 := (s1.trans s2).trans s3
    cases v with
    | true =>
      rw [if_pos rfl]
      exact hc rfl F3 L R2 H3 σ (g.mono s123) (Ω.mono s3 o2) k3 _ fun z' F4 R4 H4 s4 o4 k4 r4 => hr' rfl F4 L R4 H4 y z' k4 (r2.mono (s3.trans s4)) r4 _ fun z5 F5 H5 s5 k5 r5 => by
        cases r5
        exact ⟨_, rfl, q F5 R4 H5 ((s123.trans s4).trans s5) (Ω.mono s5 o4) k5⟩
    | false =>
      rw [if_neg Bool.false_ne_true]
      exact ⟨_, rfl, q F3 R2 H3 s123 (Ω.mono s3 o2) k3⟩)
variable {m : Int}
theorem nolast (b c : Expr) {op op' : CmpOp} (h : op' ≠ .In := by decide) (h2 : op' ≠ .NotIn := by decide) : lastMarks [op, op'] [b, c] = false := by
  show behindInMarks op' c = false
  exact nomark c h h2
theorem od_le : OpD (rI0 fun i j => .bl (decide (i ≤ j))) (.int i) (.int j) (.bool (decide (i ≤ j))) := od_I0 (h := fun i j => .bool (decide (i ≤ j))) fun _ _ _ => .bl _
theorem od_lt : OpD (rI0 fun i j => .bl (decide (i < j))) (.int i) (.int j) (.bool (decide (i < j))) := od_I0 (h := fun i j => .bool (decide (i < j))) fun _ _ _ => .bl _
theorem ev_lele (ha : Ev X Ω ρ a (.int i)) (hb : Ev X Ω ρ b (.int j)) (hc : Ev X Ω ρ c (.int m)) : Ev X Ω ρ (.Compare a [.LtE, .LtE] [b, c] pos) (.bool (decide (i ≤ j) && decide (j ≤ m))) := ev_chain op_le op_le od_le (fun _ => od_le) ha hb (fun _ => hc) (nolast _ _)
theorem et_lele (ha : Ev X Ω ρ a (.int i)) (hb : Ev X Ω ρ b (.int j)) (hc : Ev X Ω ρ c (.int m)) : EvT X Ω ρ (.Compare a [.LtE, .LtE] [b, c] pos) (decide (i ≤ j) && decide (j ≤ m)) := et_chain op_le op_le od_le (fun _ => od_le) ha hb (fun _ => hc) (nolast _ _)
theorem et_lelt (ha : Ev X Ω ρ a (.int i)) (hb : Ev X Ω ρ b (.int j)) (hc : Ev X Ω ρ c (.int m)) : EvT X Ω ρ (.Compare a [.LtE, .Lt] [b, c] pos) (decide (i ≤ j) && decide (j < m)) := et_chain op_le op_lt od_le (fun _ => od_lt) ha hb (fun _ => hc) (nolast _ _)
/-! and, or, not, if -/
theorem et_val {v : Bool} (h : Ev X Ω ρ e (.bool v)) (he : ∀ whole, isTrue e X.env whole = (do let v ← whole; standAt e.pos; holding [v] (truthy v)) := by intro _; rfl) : EvT X Ω ρ e v := fun F L R H σ g om k Q q =>
  toT (pt_val (pe_w e) he) (h F L R H σ g om k _ fun x F1 R1 H1 s1 o1 k1 r1 => by
    cases r1
    exact ⟨v, rfl, q F1 R1 H1 s1 o1 k1⟩)
theorem et_not {v : Bool} (h : EvT X Ω ρ e v) : EvT X Ω ρ (.UnaryOp .Not e pos) (!v) := fun F L R H σ g om k Q q => toT (pt_not (pt_w e)) (h F L R H σ g om k _ q)
theorem et_W {v : Bool} (h : EvW X Ω ρ e v) : EvT X Ω ρ e v := fun F L R H σ g om k Q q => toT (pw_w e).pt (h F L R H σ g om k _ q)
theorem ew_and1 {v : Bool} (h : EvT X Ω ρ e v) : EvW X Ω ρ (.BoolOp .And [e] pos) v := fun F L R H σ g om k Q q => toW (pw_and1 (pt_w e)) (h F L R H σ g om k _ q)
theorem ew_or1 {v : Bool} (h : EvT X Ω ρ e v) : EvW X Ω ρ (.BoolOp .Or [e] pos) v := fun F L R H σ g om k Q q => toW (pw_or1 (pt_w e)) (h F L R H σ g om k _ q)
theorem ew_and {es : List Expr} {v v' : Bool} (h : EvT X Ω ρ a v) (h' : v = true → EvW X Ω ρ (.BoolOp .And (b :: es) pos) v') : EvW X Ω ρ (.BoolOp .And (a :: b :: es) pos) (v && v') := fun F L R H σ g om k Q q =>
  toW (pw_and (pt_w a) (pw_w _)) (h F L R H σ g om k _ fun F1 R1 H1 s1 o1 k1 => by
    cases v with
    | true =>
      rw [if_pos rfl]
      exact h' rfl F1 L R1 H1 σ (g.mono s1) o1 k1 Q fun F2 R2 H2 s2 o2 k2 => q F2 R2 H2 (s1.trans s2) o2 k2
    | false =>
      rw [if_neg Bool.false_ne_true]
      exact q F1 R1 H1 s1 o1 k1)
theorem ew_or {es : List Expr} {v v' : Bool} (h : EvT X Ω ρ a v) (h' : v = false → EvW X Ω ρ (.BoolOp .Or (b :: es) pos) v') : EvW X Ω ρ (.BoolOp .Or (a :: b :: es) pos) (v || v') := fun F L R H σ g om k Q q =>
  toW (pw_or (pt_w a) (pw_w _)) (h F L R H σ g om k _ fun F1 R1 H1 s1 o1 k1 => by
    cases v with
    | true =>
      rw [if_pos rfl]
      exact q F1 R1 H1 s1 o1 k1
    | false =>
      rw [if_neg Bool.false_ne_true]
      exact h' rfl F1 L R1 H1 σ (g.mono s1) o1 k1 Q fun F2 R2 H2 s2 o2 k2 => q F2 R2 H2 (s1.trans s2) o2 k2)
theorem et_and {v v' : Bool} (h : EvT X Ω ρ a v) (h' : v = true → EvT X Ω ρ b v') : EvT X Ω ρ (.BoolOp .And [a, b] pos) (v && v') := et_W (ew_and h fun z => ew_and1 (h' z))
theorem et_or {v v' : Bool} (h : EvT X Ω ρ a v) (h' : v = false → EvT X Ω ρ b v') : EvT X Ω ρ (.BoolOp .Or [a, b] pos) (v || v') := et_W (ew_or h fun z => ew_or1 (h' z))
/-- as values -/
theorem ev_one {op : BoolOp} (h : Ev X Ω ρ a d) : Ev X Ω ρ (.BoolOp op [a] pos) d := fun F L R H σ g om k Q q => toE (pe_one (pe_w a)) (h F L R H σ g om k _ q)
theorem ev_and {es : List Expr} {v v' : Bool} (h : Ev X Ω ρ a (.bool v)) (h' : v = true → Ev X Ω ρ (.BoolOp .And (b :: es) pos) (.bool v')) : Ev X Ω ρ (.BoolOp .And (a :: b :: es) pos) (.bool (v && v')) := fun F L R H σ g om k Q q =>
  toE (pe_and (pe_w a) (pe_w _)) (h F L R H σ g om k _ fun x F1 R1 H1 s1 o1 k1 r1 => by
    cases r1
    refine ⟨v, rfl, ?_⟩
    cases v with
    | true =>
      rw [if_pos rfl]
      exact h' rfl F1 L R1 H1 σ (g.mono s1) o1 k1 Q (q.same s1)
    | false =>
      rw [if_neg Bool.false_ne_true]
      exact q _ F1 R1 H1 s1 o1 k1 (.bl _))
theorem ev_or {es : List Expr} {v v' : Bool} (h : Ev X Ω ρ a (.bool v)) (h' : v = false → Ev X Ω ρ (.BoolOp .Or (b :: es) pos) (.bool v')) : Ev X Ω ρ (.BoolOp .Or (a :: b :: es) pos) (.bool (v || v')) := fun F L R H σ g om k Q q =>
  toE (pe_or (pe_w a) (pe_w _)) (h F L R H σ g om k _ fun x F1 R1 H1 s1 o1 k1 r1 => by
    cases r1
    refine ⟨v, rfl, ?_⟩
    cases v with
    | true =>
      rw [if_pos rfl]
      exact q _ F1 R1 H1 s1 o1 k1 (.bl _)
    | false =>
      rw [if_neg Bool.false_ne_true]
      exact h' rfl F1 L R1 H1 σ (g.mono s1) o1 k1 Q (q.same s1))
theorem ev_not {v : Bool} (h : Ev X Ω ρ a (.bool v)) : Ev X Ω ρ (.UnaryOp .Not a pos) (.bool (!v)) := fun F L R H σ g om k Q q =>
  toE (pe_not (pe_w a)) (h F L R H σ g om k _ fun x F1 R1 H1 s1 o1 k1 r1 => by
    cases r1
    exact ⟨v, rfl, q _ F1 R1 H1 s1 o1 k1 (.bl _)⟩)
theorem ev_if {v : Bool} (h : EvT X Ω ρ c v) (h1 : v = true → Ev X Ω ρ a d) (h2 : v = false → Ev X Ω ρ b d) : Ev X Ω ρ (.IfExp c a b pos) d := fun F L R H σ g om k Q q =>
  toE (pe_ifExp (pt_w c) (pe_w a) (pe_w b)) (h F L R H σ g om k _ fun F1 R1 H1 s1 o1 k1 => by
    cases v with
    | true =>
      rw [if_pos rfl]
      exact h1 rfl F1 L R1 H1 σ (g.mono s1) o1 k1 Q (q.same s1)
    | false =>
      rw [if_neg Bool.false_ne_true]
      exact h2 rfl F1 L R1 H1 σ (g.mono s1) o1 k1 Q (q.same s1))
/-! arguments, displays -/
theorem ea_nil : EvA X Ω ρ [] [] := fun F L R H σ g om k Q q => toA pa_nil (q [] F R H (Same.refl F) om k .nil)
theorem ea_cons {es : List Expr} {ds : List PyData} (h : Ev X Ω ρ e d) (h' : EvA X Ω ρ es ds) (hs : starEach (e :: es) X.env = (false, eval e X.env) :: starEach es X.env := by rfl) : EvA X Ω ρ (e :: es) (d :: ds) := fun F L R H σ g om k Q q =>
  toA (pa_cons (pe_w e) (pa_w es) hs) (h F L R H σ g om k _ fun x F1 R1 H1 s1 o1 k1 r1 => h' F1 L R1 H1 σ (g.mono s1) o1 k1 _ fun vs F2 R2 H2 s2 o2 k2 r2 => q _ F2 R2 H2 (s1.trans s2) o2 k2 (.cons (r1.mono s2) r2))
theorem ev_tup {es : List Expr} {ds : List PyData} {n : Nat} (h : EvA X Ω ρ es ds) (hl : ds.length ≤ sizeLine := by first | (simp only [List.length_cons, List.length_nil]; decide) | decide) : Ev X Ω ρ (.Tuple es n pos) (.tuple ds) := fun F L R H σ g om k Q q =>
  toE (pe_tup (pa_w es)) (h F L R H σ g om k _ fun vs F1 R1 H1 s1 o1 k1 r1 => ⟨by rw [r1.length]; exact hl, To.tup ((q.same s1).to o1) k1 r1⟩)
theorem ev_lst {es : List Expr} {ds : List PyData} (h : EvA X Ω ρ es ds) (hl : ds.length ≤ sizeLine := by first | (simp only [List.length_cons, List.length_nil]; decide) | decide) : Ev X Ω ρ (.List es pos) (.list ds) := fun F L R H σ g om k Q q =>
  toE (pe_lst (pa_w es)) (h F L R H σ g om k _ fun vs F1 R1 H1 s1 o1 k1 r1 => ⟨by rw [r1.length]; exact hl, To.lst ((q.same s1).to o1) k1 r1⟩)
/-! items -/
theorem atI_rp {F : Hp} {vs : List V} {ds : List PyData} {z : Int} (r : RpA F vs ds) (h : atI ds z = some d) : ∃ v, atI vs z = some v ∧ Rp F v d := by
  unfold atI at h ⊢
  rw [r.length]
  cases e : ixN ds.length z with
  | none =>
    rw [e] at h
    cases h
  | some n =>
    rw [e] at h
    obtain ⟨v, h1, h2⟩ := r.get (show ds[n]? = some d from h)
    exact ⟨v, h1, h2⟩
theorem ev_ix {r : R2} (hr : IxR X r) (ho : OpD r da db d) (ha : Ev X Ω ρ a da) (hb : Ev X Ω ρ b db) (hs : PlainIx b) : Ev X Ω ρ (.Subscript a b pos) d := fun F L R H σ g om k Q q =>
  toE (pe_ix hr (pe_w a) (pe_w b) hs) (ha F L R H σ g om k _ fun x F1 R1 H1 s1 o1 k1 r1 => hb F1 L R1 H1 σ (g.mono s1) o1 k1 _ fun y F2 R2 H2 s2 o2 k2 r2 => ho F2 L R2 H2 x y k2 (r1.mono s2) r2 Q ((q.same (s1.trans s2)).to o2))
theorem od_ixL {K : PySem.W.Frag} {ds : List PyData} (h : atI ds i = some d) : OpD (rIxL K) (.list ds) (.int i) d := fun F L R H x y k rx ry Q q => by
  cases ry
  cases rx with
  | lst h1 r1 =>
    obtain ⟨v, h2, h3⟩ := atI_rp r1 h
    exact ⟨_, _, i, v, rfl, rfl, SqL.of (k.f _ _ h1), h2, q.here k h3⟩
theorem od_ixT {K : PySem.W.Frag} {ds : List PyData} (h : atI ds i = some d) : OpD (rIxT K) (.tuple ds) (.int i) d := fun F L R H x y k rx ry Q q => by
  cases ry
  cases rx with
  | tup h1 r1 =>
    obtain ⟨v, h2, h3⟩ := atI_rp r1 h
    exact ⟨_, _, i, v, rfl, rfl, SqT.of (k.f _ _ h1), h2, q.here k h3⟩
theorem ev_ixL {ds : List PyData} (ha : Ev X Ω ρ a (.list ds)) (hb : Ev X Ω ρ b (.int i)) (h : atI ds i = some d) (hs : PlainIx b := by exact fun _ _ => rfl) : Ev X Ω ρ (.Subscript a b pos) d := ev_ix ix_list (od_ixL h) ha hb hs
theorem ev_ixT {ds : List PyData} (ha : Ev X Ω ρ a (.tuple ds)) (hb : Ev X Ω ρ b (.int i)) (h : atI ds i = some d) (hs : PlainIx b := by exact fun _ _ => rfl) : Ev X Ω ρ (.Subscript a b pos) d := ev_ix ix_tup (od_ixT h) ha hb hs
theorem ev_ixS {z : Str} {n : Nat} (ha : Ev X Ω ρ a (.str z)) (hb : Ev X Ω ρ b (.int i)) (h : atI z.cps.toList i = some n) (hz : z.length ≤ sizeLine) (hs : PlainIx b := by exact fun _ _ => rfl) : Ev X Ω ρ (.Subscript a b pos) (.str ⟨#[n]⟩) := ev_ix ix_str (fun F L R H x y k rx ry Q q => by
  cases ry
  cases rx
  exact ⟨z, i, n, rfl, rfl, hz, h, q.here k (.str _)⟩) ha hb hs
/-! calls of built-ins -/
theorem ev_callB {id : String} {x : Str} {p : Pos} {es : List Expr} {ds : List PyData} {r : List V → Hp → VK → Prop} (hc : CallR X (.builtin id) r) (hr : ClD r ds d) (hm : X.mg x = none) (hv : bootBuiltins x = some (.builtin id)) (ha : EvA X Ω ρ (e :: es) ds) (hg : Gl X x := by rfl)
    (hn : x ≠ "__name__" := by decide) (hdb : (x == ("__debug__" : Str)) = false := by decide) (he : starEach (e :: es) X.env = (false, eval e X.env) :: starEach es X.env := by rfl) (hpl : (backTo pos (starEach es X.env)).any (·.1) = false := by rfl) : Ev X Ω ρ (.Call (.Name x p) (e :: es) [] pos) d := fun F L R H σ g om k Q q =>
  toE (pe_callB hc hg hm hv (pa_w _) hn hdb he hpl) (ha F L R H σ g om k _ fun vs F1 R1 H1 s1 o1 k1 r1 => hr F1 L R1 H1 vs k1 r1 Q ((q.same s1).to o1))
theorem ev_callTy {T : String} {x : Str} {p : Pos} {es : List Expr} {ds : List PyData} {r : List V → Hp → VK → Prop} (hc : CallR X (.type T) r) (hr : ClD r ds d) (hm : X.mg x = none) (hv : bootBuiltins x = some (.type T)) (ha : EvA X Ω ρ (e :: es) ds) (hg : Gl X x := by rfl)
    (hn : x ≠ "__name__" := by decide) (hdb : (x == ("__debug__" : Str)) = false := by decide) (he : starEach (e :: es) X.env = (false, eval e X.env) :: starEach es X.env := by rfl) (hpl : (backTo pos (starEach es X.env)).any (·.1) = false := by rfl) : Ev X Ω ρ (.Call (.Name x p) (e :: es) [] pos) d := fun F L R H σ g om k Q q =>
  toE (pe_callTy hc hg hm hv (pa_w _) hn hdb he hpl) (ha F L R H σ g om k _ fun vs F1 R1 H1 s1 o1 k1 r1 => hr F1 L R1 H1 vs k1 r1 Q ((q.same s1).to o1))
end
end G
end

section
set_option Elab.async false
set_option linter.all false
set_option maxRecDepth 100000
set_option maxHeartbeats 4000000
namespace G
open PySem L2

/-! ### what is walked -/
/-- the iterator J gives the data ds in turn, wherever B stands; nothing else moves -/
def GoodIt (J : It) (B F : Hp) (ds : List PyData) : Prop :=
  (∀ H, Same B H → ∀ (i : Nat) (d : PyData), ds[i]? = some d → J.go i H ∧ ∀ x H', J.yld i H x H' → H' = H ∧ Rp F x d) ∧ ∀ H, Same B H → J.stop ds.length H
def EvI (X : Cx) (Ω : Om) (ρ : Rho) (tg iter : Expr) (ds : List PyData) : Prop := ∀ F L R H σ, Sg F L σ ρ → Ω.I F R → Ok F L R H → ∀ Q : It → Hp → Prop, (∀ J F' R' H', Same F F' → Ω.I F' R' → Ok F' L R' H' → GoodIt J F' F' ds → Q J H') → wI X tg iter σ H Q
/-- for a comprehension: own lists too -/
def EvIC (X : Cx) (Ω : Om) (ρ : Rho) (tg iter : Expr) (ds : List PyData) : Prop := ∀ F L R H σ, Sg F L σ ρ → Ω.I F R → Ok F L R H → ∀ Q : It → Hp → Prop, (∀ J B F' R' H', Same F F' → Ω.I F' R' → Ok F' L R' H' → (∀ H2, Same F' H2 → Same L H2 → Same B H2) → GoodIt J B F' ds → Q J H') → wI X tg iter σ H Q
theorem EvI.c {X : Cx} {ρ : Rho} {tg iter : Expr} {ds : List PyData} (h : EvI X Ω ρ tg iter ds) : EvIC X Ω ρ tg iter ds := fun F L R H σ g om k Q q => h F L R H σ g om k Q fun J F' R' H' s o k' gd => q J F' F' R' H' s o k' (fun _ a _ => a) gd
section
variable {X : Cx} {Ω : Om} {ρ : Rho} {tg a b e : Expr} {pos : Pos} {ds : List PyData}
theorem good_list {K : PySem.W.Frag} {p : Addr} {vs : List V} {B F : Hp} (h : B p = some (.lst vs)) (r : RpA F vs ds) : GoodIt (Itl K p) B F ds := by
  refine ⟨fun H s i d e => ?_, fun H s => ⟨vs, SqL.of (s _ _ h), by rw [r.length]; exact Nat.le_refl _⟩⟩
  obtain ⟨v, h1, h2⟩ := r.get e
  refine ⟨⟨vs, v, SqL.of (s _ _ h), h1⟩, fun x H' y => ⟨y.1, ?_⟩⟩
  have q := y.2 vs (SqL.of (s _ _ h))
  rw [h1] at q
  cases q
  exact h2
theorem good_tup {K : PySem.W.Frag} {p : Addr} {vs : List V} {B F : Hp} (h : B p = some (.tup vs)) (r : RpA F vs ds) : GoodIt (Itt K p) B F ds := by
  refine ⟨fun H s i d e => ?_, fun H s => ⟨vs, SqT.of (s _ _ h), by rw [r.length]; exact Nat.le_refl _⟩⟩
  obtain ⟨v, h1, h2⟩ := r.get e
  refine ⟨⟨vs, v, SqT.of (s _ _ h), h1⟩, fun x H' y => ⟨y.1, ?_⟩⟩
  have q := y.2 vs (SqT.of (s _ _ h))
  rw [h1] at q
  cases q
  exact h2
theorem ei_list (h : Ev X Ω ρ e (.list ds)) : EvI X Ω ρ tg e ds := fun F L R H σ g om k Q q =>
  toI (pi_list (pe_w e)) (h F L R H σ g om k _ fun v F1 R1 H1 s1 o1 k1 r1 => by
    cases r1 with
    | lst h1 r => exact ⟨_, rfl, ⟨_, SqL.of (k1.f _ _ h1)⟩, q _ F1 R1 H1 s1 o1 k1 (good_list h1 r)⟩)
theorem ei_tup (h : Ev X Ω ρ e (.tuple ds)) : EvI X Ω ρ tg e ds := fun F L R H σ g om k Q q =>
  toI (pi_tup (pe_w e)) (h F L R H σ g om k _ fun v F1 R1 H1 s1 o1 k1 r1 => by
    cases r1 with
    | tup h1 r => exact ⟨_, rfl, ⟨_, SqT.of (k1.f _ _ h1)⟩, q _ F1 R1 H1 s1 o1 k1 (good_tup h1 r)⟩)
/-- an own list, in a comprehension -/
theorem ei_own (i : Nat) {x : Str} (h : ρ[i]? = some (some (.own ds)) := by rfl) (hN : X.N[i]? = some x := by rfl) (hv : Vis X.env.scope x := by first | exact Or.inl rfl | exact Or.inr (Or.inl rfl) | exact Or.inr (Or.inr rfl)) (hd : (x == ("__debug__" : Str)) = false := by decide)
    (hcd : (x == ("__classdict__" : Str)) = false := by decide) : EvIC X Ω ρ tg (.Name x pos) ds := fun F L R H σ g om k Q q => by
  obtain ⟨v, h1, p, vs, e, h2, h3⟩ := g.at_ i _ h
  subst e
  exact toI (pi_list (pe_var hN hv hd hcd)) ⟨_, h1, p, rfl, ⟨vs, SqL.of (k.l _ _ h2)⟩, q _ L F R H (Same.refl F) om k (fun _ _ b => b) (good_list h2 h3)⟩
def signs (z : Str) : List PyData := z.cps.toList.map fun c => .str ⟨#[c]⟩
theorem good_str {z : Str} {B F : Hp} : GoodIt (Its z) B F (signs z) := by
  refine ⟨fun H s i d e => ?_, fun H s => ?_⟩
  · unfold signs at e
    rw [List.getElem?_map] at e
    cases q : z.cps.toList[i]? with
    | none =>
      rw [q] at e
      cases e
    | some c =>
      rw [q] at e
      cases e
      have hl : i < z.cps.toList.length := (List.getElem?_eq_some_iff.mp q).1
      refine ⟨(by show i < z.cps.size; simpa using hl), fun x H' y => ⟨y.1, ?_⟩⟩
      obtain ⟨c', h1, h2⟩ := y.2
      subst h2
      have h3 : z.cps.toList[i]? = some c' := by simpa using h1
      rw [q] at h3
      cases h3
      exact .str _
  · show z.cps.size ≤ (signs z).length
    unfold signs
    simp
theorem ei_str {z : Str} (h : Ev X Ω ρ e (.str z)) : EvI X Ω ρ tg e (signs z) := fun F L R H σ g om k Q q =>
  toI (pi_str (pe_w e)) (h F L R H σ g om k _ fun v F1 R1 H1 s1 o1 k1 r1 => by
    cases r1
    exact ⟨z, rfl, q _ F1 R1 H1 s1 o1 k1 good_str⟩)
/-- lo, lo + 1, .. -/
def upFrom (lo : Int) (n : Nat) : List Int := (List.range n).map fun i : Nat => lo + (i : Int)
theorem good_range {lo : Int} {n : Nat} {B F : Hp} : GoodIt (Itr lo n) B F ((upFrom lo n).map PyData.int) := by
  refine ⟨fun H s i d e => ?_, fun H s => ?_⟩
  · unfold upFrom at e
    rw [List.map_map, List.getElem?_map] at e
    cases q : (List.range n)[i]? with
    | none =>
      rw [q] at e
      cases e
    | some m =>
      rw [q] at e
      cases e
      obtain ⟨h1, h2⟩ := List.getElem?_eq_some_iff.mp q
      have hm : i = m := by simpa using h2
      subst hm
      refine ⟨(by show i < n; simpa using h1), fun x H' y => ⟨y.1, ?_⟩⟩
      rw [y.2]
      exact .int _
  · show n ≤ _
    simp [upFrom]
theorem ei_range1 {n : Int} {p : Pos} (hm : X.mg "range" = none) (ha : Ev X Ω ρ a (.int n)) (h1 : -(2 ^ 62) ≤ n) (h2 : n < 2 ^ 62) (hg : Gl X "range" := by rfl) (hs : starEach [a] X.env = [(false, eval a X.env)] := by rfl) :
    EvI X Ω ρ tg (.Call (.Name "range" p) [a] [] pos) ((upFrom 0 n.toNat).map PyData.int) := fun F L R H σ g om k Q q =>
  toI (pi_range1 hg hm (pa_cons (pe_w a) pa_nil hs) hs) (ha F L R H σ g om k _ fun v F1 R1 H1 s1 o1 k1 r1 => by
    cases r1
    exact ⟨n, rfl, h1, h2, q _ F1 R1 H1 s1 o1 k1 good_range⟩)
theorem ei_range2 {n m : Int} {p : Pos} (hm : X.mg "range" = none) (ha : Ev X Ω ρ a (.int n)) (hb : Ev X Ω ρ b (.int m)) (h1 : -(2 ^ 62) ≤ n) (h2 : n < 2 ^ 62) (h3 : -(2 ^ 62) ≤ m) (h4 : m < 2 ^ 62) (hg : Gl X "range" := by rfl)
    (hs : starEach [a, b] X.env = [(false, eval a X.env), (false, eval b X.env)] := by rfl) (hs2 : starEach [b] X.env = [(false, eval b X.env)] := by rfl) :
    EvI X Ω ρ tg (.Call (.Name "range" p) [a, b] [] pos) ((upFrom n (m - n).toNat).map PyData.int) := fun F L R H σ g om k Q q =>
  toI (pi_range2 hg hm (pa_cons (pe_w a) (pa_cons (pe_w b) pa_nil hs2) (by rw [hs, hs2])) hs hs2) (ha F L R H σ g om k _ fun v F1 R1 H1 s1 o1 k1 r1 => hb F1 L R1 H1 σ (g.mono s1) o1 k1 _ fun v2 F2 R2 H2 s2 o2 k2 r2 => by
    cases r1
    cases r2
    exact ⟨n, m, rfl, ⟨h1, h2, h3, h4⟩, q _ F2 R2 H2 (s1.trans s2) o2 k2 good_range⟩)
end

/-! ### targets -/
theorem wipe_set {σ : St} {j : Nat} {o : Option V} : ∀ {vs : List Nat}, j ∈ vs → wipe (σ.set j o) vs = wipe σ vs
  | v :: vs, h => by
    show (wipe (σ.set j o) vs).set v none = (wipe σ vs).set v none
    by_cases hj : j ∈ vs
    · rw [wipe_set hj]
    · have e : j = v := by
        rcases List.mem_cons.mp h with q | q
        · exact q
        · exact (hj q).elim
      subst e
      have comm : ∀ ws : List Nat, j ∉ ws → wipe (σ.set j o) ws = (wipe σ ws).set j o := by
        intro ws
        induction ws with
        | nil => intro _; rfl
        | cons w ws ih =>
          intro hw
          have hne : j ≠ w := fun z => hw (z ▸ List.mem_cons_self)
          show (wipe (σ.set j o) ws).set w none = ((wipe σ ws).set w none).set j o
          rw [ih fun z => hw (List.mem_cons_of_mem _ z), List.set_comm _ _ hne]
      rw [comm vs hj, List.set_set]
/-- the target takes d: ρ becomes ρ', the slots vs alone move -/
def TgD (X : Cx) (vs : List Nat) (tg : Expr) (d : PyData) (ρ ρ' : Rho) : Prop := ∀ F L R H σ v, Sg F L σ ρ → Ok F L R H → Rp F v d → ∀ Q : St → Hp → Prop, (∀ σ', Sg F L σ' ρ' → wipe σ' vs = wipe σ vs → Q σ' H) → wG X tg v σ H Q
def TgsD (X : Cx) (vs : List Nat) (tgs : List Expr) (ds : List PyData) (ρ ρ' : Rho) : Prop := ∀ F L R H σ ws, Sg F L σ ρ → Ok F L R H → RpA F ws ds → ∀ Q : St → Hp → Prop, (∀ σ', Sg F L σ' ρ' → wipe σ' vs = wipe σ vs → Q σ' H) →
  ∀ (pins : List (Addr × Obj)) (s : Shared) (us : List Value), Inv X pins σ H s → Vals ws us → wpAny (model X.prog X.w) X.A (assignInOrder ((assignEach tgs X.env).map (·.2)) us) (fun _ s' => ∃ σ' H', Inv X pins σ' H' s' ∧ Q σ' H') X.xe s
section
variable {X : Cx} {Ω : Om} {ρ ρ' ρ'' : Rho} {tg : Expr} {tgs : List Expr} {pos : Pos} {d : PyData} {ds : List PyData} {vs : List Nat}
theorem tg_name (i : Nat) {x : Str} (hN : X.N.Nodup) (hv : i ∈ vs) (hi : X.N[i]? = some x := by rfl) (hx : Loc X.env.scope x := by first | exact Or.inl rfl | exact Or.inr rfl) (hf : X.fn x = true ∨ X.env.scope.names.lookup x = some .local := by first | exact .inl rfl | exact .inr rfl) :
    TgD X vs (.Name x pos) d ρ (ρ.set i (some (.d d))) := fun F L R H σ v g k r Q q => toG (pg_name hN hi hx hf) (q _ (g.setD i r) (wipe_set hv))
theorem tgs_nil : TgsD X vs [] [] ρ ρ := fun F L R H σ ws g k r Q q pins s us I rv => by
  cases r
  exact pgs_nil.run pins s σ H [] us Q I rv ⟨rfl, q σ g rfl⟩
theorem tgs_cons (h1 : TgD X vs tg d ρ ρ') (h2 : TgsD X vs tgs ds ρ' ρ'') (hs : (assignEach (tg :: tgs) X.env).map (·.2) = assign tg X.env :: (assignEach tgs X.env).map (·.2) := by rfl) : TgsD X vs (tg :: tgs) (d :: ds) ρ ρ'' := fun F L R H σ ws g k r Q q pins s us I rv => by
  cases r with
  | cons r1 r2 =>
    cases rv with
    | cons v1 v2 =>
      rw [hs]
      refine PyProof.Rows.assignInOrder_cons (thn ((h1 F L R H σ _ g k r1 (fun σ' H' => H' = H ∧ Sg F L σ' ρ' ∧ wipe σ' vs = wipe σ vs) (fun σ' g' w => ⟨rfl, g', w⟩)).run pins s _ I v1) fun _ s1 ⟨σ1, H1, I1, e1, g1, w1⟩ => ?_)
      subst e1
      exact h2 F L R _ σ1 _ g1 k r2 Q (fun σ' g' w => q σ' g' (w.trans w1)) pins s1 _ I1 v2
theorem tg_tup {n : Nat} {k : Nat} (hc : X.calm = true) (h : TgsD X vs tgs ds ρ ρ') (hn : (assignEach tgs X.env).length = n := by rfl) (hd : ds.length = n := by rfl) (hst : (assignEach tgs X.env).findIdx? (·.1) = none := by rfl) : TgD X vs (.Tuple tgs k pos) (.tuple ds) ρ ρ' := fun F L R H σ v g kk r Q q => by
  cases r with
  | tup h1 r1 =>
    have gp : PGs X tgs (fun ws σ' H' Q' => Sg F L σ' ρ ∧ σ' = σ ∧ H' = H ∧ RpA F ws ds ∧ ∀ σ2, Sg F L σ2 ρ' → wipe σ2 vs = wipe σ vs → Q' σ2 H) := ⟨fun pins s σ' H' ws us Q' I rv hw => by
      obtain ⟨g', e1, e2, r', q'⟩ := hw
      subst e1 e2
      exact h F L R _ _ ws g' kk r' Q' q' pins s us I rv⟩
    exact toG (pg_tup (k := k) hc gp hn hst) ⟨_, _, rfl, SqT.of (kk.f _ _ h1), by rw [r1.length]; exact hd, g, rfl, rfl, r1, q⟩
end

/-! ### comprehensions -/
section
variable {X : Cx} {Ω : Om} {ρ : Rho} {elt tg iter : Expr} {ifs : List Expr} {scope : Scope} {own : List (Str × Nat)} {pos : Pos}
/-- the tests of a comprehension -/
structure wTs (X : Cx) (ifs : List Expr) (σ : St) (H : Hp) (Q : Bool → Hp → Prop) : Prop where
  run : ∀ (pins : List (Addr × Obj)) (s : Shared), Inv X pins σ H s →
  wpAny (model X.prog X.w) X.A (forIn ifs true fun c r => if r = true then do let ok ← isTrue c X.env (eval c X.env); pure (ForInStep.yield ok) else pure (ForInStep.yield r)) (TP X pins σ Q) X.xe s
def EvTs (X : Cx) (Ω : Om) (ρ : Rho) (ifs : List Expr) (b : Bool) : Prop := ∀ F L R H σ, Sg F L σ ρ → Ω.I F R → Ok F L R H → ∀ Q : Bool → Hp → Prop, (∀ F' R' H', Same F F' → Ω.I F' R' → Ok F' L R' H' → Q b H') → wTs X ifs σ H Q
theorem ets_nil : EvTs X Ω ρ [] true := fun F L R H σ g om k Q q => ⟨fun pins s I => pts_nil.run pins s σ H Q I (q F R H (Same.refl F) om k)⟩
theorem ets_one {c : Expr} {b : Bool} (h : EvT X Ω ρ c b) : EvTs X Ω ρ [c] b := fun F L R H σ g om k Q q => ⟨fun pins s I => (pts_one (pt_w c)).run pins s σ H Q I (h F L R H σ g om k Q q)⟩
abbrev Bk (X : Cx) (scope : Scope) (s : Shared) (H : Hp) (C : Addr) (cl : List (Str × Addr)) (fp : List Addr) : Cx := X.blk s H scope (compEnvC scope cl C X.env) fp
/-- wiping twice -/
theorem wipe_idem : ∀ (ws : List Nat) (τ : St), (∀ v ∈ ws, τ[v]? = some none ∨ τ[v]? = none) → wipe τ ws = τ
  | [], _, _ => rfl
  | v :: ws, τ, h => by
    show (wipe τ ws).set v none = τ
    rw [wipe_idem ws τ fun u hu => h u (List.mem_cons_of_mem _ hu)]
    rcases h v List.mem_cons_self with e | e
    · exact List.ext_getElem? fun n => by
        by_cases hn : v = n
        · subst hn
          rw [List.getElem?_set_self (List.getElem?_eq_some_iff.mp e).1, e]
        · rw [List.getElem?_set_ne hn]
    · rw [List.set_eq_of_length_le (List.getElem?_eq_none_iff.mp e)]
theorem wipe_twice (σ : St) (ws : List Nat) : wipe (wipe σ ws) ws = wipe σ ws := wipe_idem ws _ fun v hv => by
  cases e : (wipe σ ws)[v]? with
  | none => exact .inr rfl
  | some o =>
    cases o with
    | none => exact .inl rfl
    | some y => exact ((wipe_some e).2 hv).elim
theorem Sg.wider {F L L' : Hp} {σ : St} {ρ : Rho} (g : Sg F L σ ρ) (s : Same L L') : Sg F L' σ ρ := by
  refine ⟨fun j sv e => ?_, g.inj, g.len⟩
  obtain ⟨v, h1, h2⟩ := g.at_ j sv e
  refine ⟨v, h1, ?_⟩
  cases sv with
  | d y => exact h2
  | own es =>
    obtain ⟨p, ws, e1, h3, h4⟩ := h2
    exact ⟨p, ws, e1, s _ _ h3, h4⟩
  | raw u => exact h2
  | exc C => exact h2
theorem del_upd {L : Hp} {D : Addr} {o : HO} (h : L D = none) : del (upd L D o) D = L := by
  funext z
  by_cases hz : z = D
  · subst hz
    rw [del_same, h]
  · rw [del_ne hz, upd_ne hz]
/-- [elt for tg in iter if ..] over the things xs (enc: as data): those that p takes, each f -/
def LcOk (X : Cx) (Ω : Om) (ρ : Rho) (wi : TI) (tg : Expr) (ifs : List Expr) (elt : Expr) (scope : Scope) (own : List (Str × Nat)) (d : PyData) : Prop := ∀ F L R H σ, Sg F L σ ρ → Ω.I F R → Ok F L R H → ∀ Q : VK, ToO Ω F L d Q →
  tLc wi (fun v σ H Q => ∀ s H1 C cl fp, wG (Bk X scope s H1 C cl fp) tg v σ H Q) (fun σ H Q => ∀ s H1 C cl fp, wTs (Bk X scope s H1 C cl fp) ifs σ H Q) (fun σ H Q => ∀ s H1 C cl fp, wE (Bk X scope s H1 C cl fp) elt σ H Q) (own.map (·.2)) σ H Q
theorem lc_ok {α : Type} (xs : List α) (enc : α → PyData) (p : α → Bool) (f : α → PyData) (rt : α → Rho) (hi : EvIC X Ω ρ tg iter (xs.map enc)) (hz : xs.length < sizeLine)
    (hg : ∀ s H C cl fp, ∀ x ∈ xs, TgD (Bk X scope s H C cl fp) (own.map (·.2)) tg (enc x) (wipeR ρ (own.map (·.2))) (rt x))
    (ht : ∀ s H C cl fp, ∀ x ∈ xs, EvTs (Bk X scope s H C cl fp) Ω (rt x) ifs (p x))
    (he : ∀ s H C cl fp, ∀ x ∈ xs, p x = true → Ev (Bk X scope s H C cl fp) Ω (rt x) elt (f x)) : LcOk X Ω ρ (wI X tg iter) tg ifs elt scope own (.list ((xs.filter p).map f)) := fun F L R H σ g om k Q q => by
  refine hi F L R H σ g om k _ fun J B F1 R1 H1 s1 o1 k1 hB gd => fun D hD => ?_
  refine ⟨fun i m H' => m = xs.length - i ∧ i ≤ xs.length ∧ ∃ F' R' vs, Same F1 F' ∧ F' D = none ∧ RpA F' vs (((xs.take i).filter p).map f) ∧ Ω.I F' R' ∧ Ok F' (upd L D (.lst vs)) R' H', ⟨xs.length, by simp, Nat.zero_le _, F1, R1, [], Same.refl _, k1.f.free hD, .nil, o1, k1.newL hD⟩, ?_⟩
  rintro i m H' ⟨rfl, hile, F', R', vs, s', hF', rvs, o', k'⟩
  have sL : ∀ o : HO, Same L (upd L D o) := fun o => same_new (k1.l.free hD)
  have sB : Same B H' := hB H' (s'.trans k'.f) ((sL _).trans k'.l)
  by_cases hlt : i < xs.length
  · refine .inr ⟨?_, fun H2 => ∃ F' R' vs, Same F1 F' ∧ F' D = none ∧ RpA F' vs (((xs.take (i + 1)).filter p).map f) ∧ Ω.I F' R' ∧ Ok F' (upd L D (.lst vs)) R' H2, fun H2 h => ⟨xs.length - (i + 1), by omega, rfl, hlt, h⟩, ?_⟩
    · exact (gd.1 H' sB i (enc xs[i]) (by rw [List.getElem?_map, List.getElem?_eq_getElem hlt]; rfl)).1
    · intro x H2 hy
      obtain ⟨e2, rx⟩ := (gd.1 H' sB i (enc xs[i]) (by rw [List.getElem?_map, List.getElem?_eq_getElem hlt]; rfl)).2 x H2 hy
      subst e2
      intro s5 H5 C5 cl5 fp5
      have gL : Sg F' (upd L D (.lst vs)) (wipe σ (own.map (·.2))) (wipeR ρ (own.map (·.2))) := ((g.mono (s1.trans s')).wipe (own.map (·.2))).wider (sL _)
      refine hg s5 H5 C5 cl5 fp5 xs[i] (List.getElem_mem _) F' _ R' H2 _ x gL k' (rx.mono s') _ fun σ2 g2 w2 => ⟨by rw [w2]; exact wipe_twice _ _, ?_⟩
      intro s7 H7 C7 cl7 fp7
      refine ht s7 H7 C7 cl7 fp7 xs[i] (List.getElem_mem _) F' _ R' H2 σ2 g2 o' k' _ fun F2 R2 H3 s2 o2 k2 => ?_
      cases hp : p xs[i] with
      | true =>
        rw [if_pos rfl]
        intro s6 H6 C6 cl6 fp6
        refine he s6 H6 C6 cl6 fp6 xs[i] (List.getElem_mem _) hp F2 _ R2 H3 σ2 (g2.mono s2) o2 k2 _ fun y F3 R3 H4 s3 o3 k3 r3 => ?_
        refine ⟨vs, k3.l D _ upd_same, ?_, F3, R3, vs ++ [y], (s'.trans s2).trans s3, ?_, ?_, o3, ?_⟩
        · rw [rvs.length, List.length_map]
          have h1 := List.length_filter_le p (xs.take i)
          rw [List.length_take] at h1
          omega
        · exact none_l k3.fl (show (upd L D (.lst vs)) D = some _ from upd_same)
        · rw [List.take_succ_eq_append_getElem hlt, List.filter_append, List.map_append, List.filter_cons, if_pos hp]
          exact RpA.append (.cons r3 .nil) (rvs.mono (s2.trans s3))
        · have := k3.setL (o' := .lst (vs ++ [y])) (show (upd L D (.lst vs)) D = some _ from upd_same)
          rw [upd_upd] at this
          exact this
      | false =>
        rw [if_neg Bool.false_ne_true]
        refine ⟨F2, R2, vs, s'.trans s2, none_l k2.fl (show (upd L D (.lst vs)) D = some _ from upd_same), ?_, o2, k2⟩
        rw [List.take_succ_eq_append_getElem hlt, List.filter_append, List.filter_cons, if_neg (by rw [hp]; exact Bool.false_ne_true), List.filter_nil, List.append_nil]
        exact rvs.mono s2
  · have ei : i = xs.length := by omega
    subst ei
    refine .inl ⟨?_, ?_⟩
    · have := gd.2 H' sB
      rw [List.length_map] at this
      exact this
    · rw [List.take_length] at rvs
      have kz := k'.freeze (show (upd L D (.lst vs)) D = some (.lst vs) from upd_same)
      rw [del_upd (k1.l.free hD)] at kz
      exact q _ _ R' H' ((s1.trans s').trans (same_new hF')) (Ω.mono (same_new hF') o') kz (.lst upd_same (rvs.mono (same_new hF')))
theorem ev_lcp {d : PyData} (hc : X.calm = true) (hN : X.N.Nodup) (ok : BlkOk X.N X.env.scope scope own) (h : LcOk X Ω ρ (wI X tg iter) tg ifs elt scope own d) (hs : ∀ x, foldedSetIterable iter X.env x = pure x := by intro _; rfl) : Ev X Ω ρ (.ListComp elt [⟨tg, iter, ifs, 0⟩] scope pos) d := fun F L R H σ g om k Q q =>
  toE (pe_lc hc hN (pi_w tg iter) ok (fun s H1 C cl fp => ⟨fun pins s' σ H v u Q I r h => (h s H1 C cl fp).run pins s' u I r⟩) (fun s H1 C cl fp => ⟨fun pins s' σ H Q I h => (h s H1 C cl fp).run pins s' I⟩) (fun s H1 C cl fp => ⟨fun pins s' σ H Q I h => (h s H1 C cl fp).run pins s' I⟩) hs) (h F L R H σ g om k Q q)
theorem lc_map {α : Type} (xs : List α) (enc : α → PyData) (f : α → PyData) (rt : α → Rho) (hi : EvIC X Ω ρ tg iter (xs.map enc)) (hz : xs.length < sizeLine)
    (hg : ∀ s H C cl fp, ∀ x ∈ xs, TgD (Bk X scope s H C cl fp) (own.map (·.2)) tg (enc x) (wipeR ρ (own.map (·.2))) (rt x))
    (he : ∀ s H C cl fp, ∀ x ∈ xs, Ev (Bk X scope s H C cl fp) Ω (rt x) elt (f x)) : LcOk X Ω ρ (wI X tg iter) tg [] elt scope own (.list (xs.map f)) := by
  have h := lc_ok (X := X) (ρ := ρ) (elt := elt) (tg := tg) (iter := iter) (ifs := []) (scope := scope) (own := own) xs enc (fun _ => true) f rt hi hz hg (fun _ _ _ _ _ _ _ => ets_nil) (fun s H C cl fp x hx _ => he s H C cl fp x hx)
  have e : xs.filter (fun _ => true) = xs := List.filter_eq_self.mpr fun _ _ => rfl
  rw [e] at h
  exact h
end
end G
end

section
set_option Elab.async false
set_option linter.all false
set_option maxRecDepth 100000
set_option maxHeartbeats 4000000
namespace G
open PySem L2

/-! ### promises over data and the rest -/
abbrev no : Hp := fun _ => none
def un (L R : Hp) : Hp := fun a => match L a with
  | some o => some o
  | none => R a
theorem un_l {L R : Hp} {a : Addr} {o : HO} (h : L a = some o) : un L R a = some o := by
  unfold un
  rw [h]
theorem un_r {L R : Hp} {a : Addr} (h : L a = none) : un L R a = R a := by
  unfold un
  rw [h]
theorem Ok.join {F L R H : Hp} (k : Ok F L R H) : Ok F no (un L R) H := by
  refine ⟨k.f, (fun a o e => by cases e), fun a o e => ?_, fun a => .inr rfl, fun a => ?_, fun a => .inl rfl⟩
  · cases h : L a with
    | none =>
      rw [un_r h] at e
      exact k.r a o e
    | some u =>
      rw [un_l h] at e
      cases e
      exact k.l a _ h
  · cases h : L a with
    | none =>
      rw [un_r h]
      exact k.fr a
    | some u =>
      have := k.fl a
      rw [h] at this
      rcases this with e | e
      · exact .inl e
      · cases e
theorem Ok.part {F L R H : Hp} (k : Ok F no (un L R) H) (d : ∀ a, L a = none ∨ R a = none) : Ok F L R H := by
  refine ⟨k.f, fun a o e => k.r a o (un_l e), fun a o e => ?_, fun a => ?_, fun a => ?_, d⟩
  · have h : L a = none := none_l d e
    exact k.r a o (by rw [un_r h]; exact e)
  · rcases k.fr a with e | e
    · exact .inl e
    · cases h : L a with
      | none => exact .inr rfl
      | some u =>
        rw [un_l h] at e
        cases e
  · rcases k.fr a with e | e
    · exact .inl e
    · cases h : L a with
      | none =>
        rw [un_r h] at e
        exact .inr e
      | some u =>
        rw [un_l h] at e
        cases e
/-- a promise: the arguments, data, the rest; what is wanted of a value, of an exception (by its class's name) -/
abbrev Pm := List V → Hp → Hp → (V → Hp → Hp → Prop) → (Str → Hp → Hp → Prop) → Prop
def lift (CA : Str → Addr) (pm : Pm) : Sp := fun vs H Q E => ∃ F M, Ok F no M H ∧ pm vs F M (fun v F' M' => Same F F' → ∀ H', Ok F' no M' H' → Q v H') (fun c F' M' => Same F F' → ∀ H', Ok F' no M' H' → E (.ref (CA c)) none H')
inductive Res where
  | ok (d : PyData)
  | ex (c : Str)
/-- data in, data out, or an exception; nothing else is touched -/
def pmD (rel : List PyData → Res → Prop) : Pm := fun vs F M q e => ∃ ds o, RpA F vs ds ∧ rel ds o ∧ match o with
  | .ok d => ∀ v F', Same F F' → Rp F' v d → q v F' M
  | .ex c => ∀ F', Same F F' → e c F' M
/-- a def by its name, with its promise -/
structure FnF (P : Program) (w : World) (K : PySem.W.Frag) (mg : Str → Option Value) (base : Heap) (k : Nat) (x : Str) (sp : Sp) : Prop where
  ex : ∃ f fd ps, FnOk P w K mg base (L2.CX P w) k f fd ps sp ∧ mg x = some (.ref f) ∧ PySem.W.keepIn K (.ref f) = true ∧ Binds K fd ps []
abbrev FnX (X : Cx) (k : Nat) (x : Str) (sp : Sp) : Prop := FnF X.prog X.w X.K X.mg X.base k x sp

section
variable {X : Cx} {Ω : Om} {CA : Str → Addr} {ρ : Rho} {e : Expr} {es : List Expr} {pos p : Pos} {d : PyData} {ds : List PyData} {k : Nat} {x : Str}
/-- f(..), data in, data out, where nothing is raised -/
theorem ev_call {rel : List PyData → Res → Prop} (fn : FnX X k x (lift CA (pmD rel))) (hr : Room k X.A) (ha : EvA X Ω ρ (e :: es) ds) (h : rel ds (.ok d)) (hg : Gl X x := by rfl) (hdb : (x == ("__debug__" : Str)) = false := by decide)
    (he : starEach (e :: es) X.env = (false, eval e X.env) :: starEach es X.env := by rfl) (hpl : (backTo pos (starEach es X.env)).any (·.1) = false := by rfl) : Ev X Ω ρ (.Call (.Name x p) (e :: es) [] pos) d := fun F L R H σ g om kk Q q => by
  obtain ⟨f, fd, ps, fn, hm, hk, hb⟩ := fn.ex
  refine toE (pe_call fn hr hg hm hk hb .nil passL (pa_w _) hdb he hpl) (ha F L R H σ g om kk _ fun vs F1 R1 H1 s1 o1 k1 r1 => ?_)
  rw [List.append_nil]
  refine ⟨F1, un L R1, k1.join, ds, .ok d, r1, h, fun v F2 s2 r2 _ H2 k2 => ?_⟩
  exact q v F2 R1 H2 (s1.trans s2) (Ω.mono s2 o1) (k2.part k1.lr) r2
end

/-! ### a state of the rest -/
structure Wd where
  W : Type
  I : W → Hp → Hp → Prop
  mono : ∀ {w : W} {F F' R : Hp}, Same F F' → I w F R → I w F' R
def Wd.om (Y : Wd) (w : Y.W) : Om := ⟨fun F R => Y.I w F R, fun s h => Y.mono s h⟩
/-- the rest stays as it is -/
def pureW (R0 : Hp) : Wd := ⟨Unit, fun _ _ R => R = R0, fun _ h => h⟩

section
variable {CA : Str → Addr} {Y : Wd}
/-- what is wanted of a value -/
def ToS (Y : Wd) (F L : Hp) (O : Sv → Y.W → Prop) (Q : VK) : Prop := ∀ sv w' v F' R' H', O sv w' → Same F F' → Y.I w' F' R' → RpS F' L v sv → isOwn sv = false → Ok F' L R' H' → Q v H'
def ToX (CA : Str → Addr) (Y : Wd) (F L : Hp) (σ : St) (Ox : Str → Y.W → Prop) (Wx : WX) : Prop := ∀ c w' F' R' H', Ox c w' → Same F F' → Y.I w' F' R' → Ok F' L R' H' → Wx (.ref (CA c)) none σ H'
def ToT (Y : Wd) (F L : Hp) (O : Bool → Y.W → Prop) (Q : Bool → Hp → Prop) : Prop := ∀ b w' F' R' H', O b w' → Same F F' → Y.I w' F' R' → Ok F' L R' H' → Q b H'
def ToA (Y : Wd) (F L : Hp) (O : List Sv → Y.W → Prop) (Q : List V → Hp → Prop) : Prop := ∀ svs w' vs F' R' H', O svs w' → Same F F' → Y.I w' F' R' → Paired (fun v sv => RpS F' L v sv ∧ isOwn sv = false) vs svs → Ok F' L R' H' → Q vs H'
def EvS (X : Cx) (CA : Str → Addr) (Y : Wd) (ρ : Rho) (w : Y.W) (e : Expr) (O : Sv → Y.W → Prop) (Ox : Str → Y.W → Prop) : Prop := ∀ F L R H σ, Sg F L σ ρ → Y.I w F R → Ok F L R H → ∀ (Q : VK) (Wx : WX), Takes X Wx → ToS Y F L O Q → ToX CA Y F L σ Ox Wx → wE X e σ H Q
def EvST (X : Cx) (CA : Str → Addr) (Y : Wd) (ρ : Rho) (w : Y.W) (e : Expr) (O : Bool → Y.W → Prop) (Ox : Str → Y.W → Prop) : Prop := ∀ F L R H σ, Sg F L σ ρ → Y.I w F R → Ok F L R H → ∀ (Q : Bool → Hp → Prop) (Wx : WX), Takes X Wx → ToT Y F L O Q → ToX CA Y F L σ Ox Wx → wT X e σ H Q
def EvSA (X : Cx) (CA : Str → Addr) (Y : Wd) (ρ : Rho) (w : Y.W) (es : List Expr) (O : List Sv → Y.W → Prop) (Ox : Str → Y.W → Prop) : Prop := ∀ F L R H σ, Sg F L σ ρ → Y.I w F R → Ok F L R H → ∀ (Q : List V → Hp → Prop) (Wx : WX), Takes X Wx → ToA Y F L O Q → ToX CA Y F L σ Ox Wx → wA X es σ H Q
theorem ToS.same {F F1 L : Hp} {O : Sv → Y.W → Prop} {Q : VK} (s : Same F F1) (q : ToS Y F L O Q) : ToS Y F1 L O Q := fun sv w' v F' R' H' o s' => q sv w' v F' R' H' o (s.trans s')
theorem ToX.same {F F1 L : Hp} {σ : St} {Ox : Str → Y.W → Prop} {Wx : WX} (s : Same F F1) (q : ToX CA Y F L σ Ox Wx) : ToX CA Y F1 L σ Ox Wx := fun c w' F' R' H' o s' => q c w' F' R' H' o (s.trans s')
theorem ToT.same {F F1 L : Hp} {O : Bool → Y.W → Prop} {Q : Bool → Hp → Prop} (s : Same F F1) (q : ToT Y F L O Q) : ToT Y F1 L O Q := fun b w' F' R' H' o s' => q b w' F' R' H' o (s.trans s')
theorem ToA.same {F F1 L : Hp} {O : List Sv → Y.W → Prop} {Q : List V → Hp → Prop} (s : Same F F1) (q : ToA Y F L O Q) : ToA Y F1 L O Q := fun svs w' vs F' R' H' o s' => q svs w' vs F' R' H' o (s.trans s')
variable {X : Cx} {ρ : Rho} {w : Y.W} {a b c e : Expr} {es : List Expr} {pos p : Pos} {d da db : PyData} {O : Sv → Y.W → Prop} {Ox : Str → Y.W → Prop} {OT : Bool → Y.W → Prop} {OA : List Sv → Y.W → Prop}
theorem Ev.s (h : Ev X (Y.om w) ρ e d) (o : O (.d d) w) : EvS X CA Y ρ w e O Ox := fun F L R H σ g i k Q Wx tk q qx => h F L R H σ g i k Q fun v F' R' H' s' i' k' r' => q (.d d) w v F' R' H' o s' i' r' rfl k'
theorem EvT.s {v : Bool} (h : EvT X (Y.om w) ρ e v) (o : OT v w) : EvST X CA Y ρ w e OT Ox := fun F L R H σ g i k Q Wx tk q qx => h F L R H σ g i k Q fun F' R' H' s' i' k' => q v w F' R' H' o s' i' k'
theorem es_raw (i : Nat) {x : Str} {v : V} (o : O (.raw v) w) (h : ρ[i]? = some (some (.raw v)) := by rfl) (hN : X.N[i]? = some x := by rfl) (hv : Vis X.env.scope x := by first | exact Or.inl rfl | exact Or.inr (Or.inl rfl) | exact Or.inr (Or.inr rfl)) (hd : (x == ("__debug__" : Str)) = false := by decide)
    (hcd : (x == ("__classdict__" : Str)) = false := by decide) : EvS X CA Y ρ w (.Name x pos) O Ox := fun F L R H σ g ii k Q Wx tk q qx => by
  obtain ⟨v', h1, h2⟩ := g.at_ i _ h
  cases h2
  exact toE (pe_var hN hv hd hcd) ⟨_, h1, q (.raw v) w v F R H o (Same.refl F) ii rfl rfl k⟩
theorem EvS.imp {O' : Sv → Y.W → Prop} {Ox' : Str → Y.W → Prop} (h : EvS X CA Y ρ w e O' Ox') (ho : ∀ sv w', O' sv w' → O sv w') (hx : ∀ c w', Ox' c w' → Ox c w') : EvS X CA Y ρ w e O Ox := fun F L R H σ g i k Q Wx tk q qx =>
  h F L R H σ g i k Q Wx tk (fun sv w' v F' R' H' o => q sv w' v F' R' H' (ho sv w' o)) (fun c w' F' R' H' o => qx c w' F' R' H' (hx c w' o))
/-- two operands, in turn -/
theorem es_two {O2 : Sv → Sv → Y.W → Prop} (ha : EvS X CA Y ρ w a (fun x w1 => EvS X CA Y ρ w1 b (fun y w2 => O2 x y w2) Ox) Ox) {F L R H : Hp} {σ : St} (g : Sg F L σ ρ) (i : Y.I w F R) (k : Ok F L R H) {Wx : WX} (tk : Takes X Wx) (qx : ToX CA Y F L σ Ox Wx) {Q : V → V → Hp → Prop}
    (q : ∀ x y w2 u v F' R' H', O2 x y w2 → Same F F' → Y.I w2 F' R' → RpS F' L u x → RpS F' L v y → isOwn x = false → isOwn y = false → Ok F' L R' H' → Q u v H') : wE X a σ H fun u H1 => wE X b σ H1 fun v H2 => Q u v H2 :=
  ha F L R H σ g i k _ Wx tk (fun x w1 u F1 R1 H1 o1 s1 i1 r1 n1 k1 => o1 F1 L R1 H1 σ (g.mono s1) i1 k1 _ Wx tk (fun y w2 v F2 R2 H2 o2 s2 i2 r2 n2 k2 => q x y w2 u v F2 R2 H2 o2 (s1.trans s2) i2 (r1.mono s2) r2 n1 n2 k2) (qx.same s1)) qx
theorem es_op {op : Operator} {r : R2} (ho : OpR X (binaryOp op) r) (ha : EvS X CA Y ρ w a (fun x w1 => EvS X CA Y ρ w1 b (fun y w2 => ∃ da db d, x = .d da ∧ y = .d db ∧ OpD r da db d ∧ O (.d d) w2) Ox) Ox) : EvS X CA Y ρ w (.BinOp a op b pos) O Ox := fun F L R H σ g i k Q Wx tk q qx =>
  toE (pe_op ho (pe_w a) (pe_w b)) (es_two ha g i k tk qx fun x y w2 u v F2 R2 H2 o2 s2 i2 r1 r2 n1 n2 k2 => by
    obtain ⟨da, db, d, e1, e2, hr, o⟩ := o2
    subst e1 e2
    exact hr F2 L R2 H2 u v k2 r1 r2 Q fun z F3 H3 s3 k3 r3 => q (.d d) w2 z F3 R2 H3 o (s2.trans s3) (Y.mono s3 i2) r3 rfl k3)
theorem es_cmp {op : CmpOp} {r : R2} (ho : OpR X (compareOp op) r) (hm : behindInMarks op b = false) (ha : EvS X CA Y ρ w a (fun x w1 => EvS X CA Y ρ w1 b (fun y w2 => ∃ da db d, x = .d da ∧ y = .d db ∧ OpD r da db d ∧ O (.d d) w2) Ox) Ox) : EvS X CA Y ρ w (.Compare a [op] [b] pos) O Ox := fun F L R H σ g i k Q Wx tk q qx =>
  toE (pe_cmpR ho (pe_w a) (pe_w b) hm) (es_two ha g i k tk qx fun x y w2 u v F2 R2 H2 o2 s2 i2 r1 r2 n1 n2 k2 => by
    obtain ⟨da, db, d, e1, e2, hr, o⟩ := o2
    subst e1 e2
    exact hr F2 L R2 H2 u v k2 r1 r2 Q fun z F3 H3 s3 k3 r3 => q (.d d) w2 z F3 R2 H3 o (s2.trans s3) (Y.mono s3 i2) r3 rfl k3)
theorem est_cmp {op : CmpOp} {r : R2} (ho : OpR X (compareOp op) r) (hm : behindInMarks op b = false) (ha : EvS X CA Y ρ w a (fun x w1 => EvS X CA Y ρ w1 b (fun y w2 => ∃ da db v, x = .d da ∧ y = .d db ∧ OpD r da db (.bool v) ∧ OT v w2) Ox) Ox) : EvST X CA Y ρ w (.Compare a [op] [b] pos) OT Ox := fun F L R H σ g i k Q Wx tk q qx =>
  toT (pt_cmpR ho (pe_w a) (pe_w b) hm) (es_two ha g i k tk qx fun x y w2 u v F2 R2 H2 o2 s2 i2 r1 r2 n1 n2 k2 => by
    obtain ⟨da, db, z, e1, e2, hr, o⟩ := o2
    subst e1 e2
    exact hr F2 L R2 H2 u v k2 r1 r2 _ fun z' F3 H3 s3 k3 r3 => by
      cases r3
      exact ⟨z, rfl, q z w2 F3 R2 H3 o (s2.trans s3) (Y.mono s3 i2) k3⟩)
theorem esa_nil (o : OA [] w) : EvSA X CA Y ρ w [] OA Ox := fun F L R H σ g i k Q Wx tk q qx => toA pa_nil (q [] w [] F R H o (Same.refl F) i .nil k)
theorem esa_cons (h : EvS X CA Y ρ w e (fun sv w1 => EvSA X CA Y ρ w1 es (fun svs w2 => OA (sv :: svs) w2) Ox) Ox) (hs : starEach (e :: es) X.env = (false, eval e X.env) :: starEach es X.env := by rfl) : EvSA X CA Y ρ w (e :: es) OA Ox := fun F L R H σ g i k Q Wx tk q qx =>
  toA (pa_cons (pe_w e) (pa_w es) hs) (h F L R H σ g i k _ Wx tk (fun sv w1 v F1 R1 H1 o1 s1 i1 r1 n1 k1 => o1 F1 L R1 H1 σ (g.mono s1) i1 k1 _ Wx tk (fun svs w2 vs F2 R2 H2 o2 s2 i2 r2 k2 => q (sv :: svs) w2 (v :: vs) F2 R2 H2 o2 (s1.trans s2) i2 (.cons ⟨r1.mono s2, n1⟩ r2) k2) (qx.same s1)) qx)
theorem rpA_of {F L : Hp} : ∀ {vs : List V} {ds : List PyData}, Paired (fun v sv => RpS F L v sv ∧ isOwn sv = false) vs (ds.map Sv.d) → RpA F vs ds
  | _, [], .nil => .nil
  | _, d :: ds, .cons h r => .cons h.1 (rpA_of r)
theorem es_tup {n : Nat} (h : EvSA X CA Y ρ w es (fun svs w1 => ∃ ds, svs = ds.map Sv.d ∧ ds.length ≤ sizeLine ∧ O (.d (.tuple ds)) w1) Ox) : EvS X CA Y ρ w (.Tuple es n pos) O Ox := fun F L R H σ g i k Q Wx tk q qx =>
  toE (pe_tup (pa_w es)) (h F L R H σ g i k _ Wx tk (fun svs w1 vs F1 R1 H1 o1 s1 i1 r1 k1 => by
    obtain ⟨ds, e1, hl, o⟩ := o1
    subst e1
    have rr := rpA_of r1
    refine ⟨by rw [rr.length]; exact hl, To.tup (F := F1) (L := L) (R := R1) (ds := ds) (fun v F2 H2 s2 k2 r2 => q (.d (.tuple ds)) w1 v F2 R1 H2 o (s1.trans s2) (Y.mono s2 i1) r2 rfl k2) k1 rr⟩) qx)
theorem es_lst (h : EvSA X CA Y ρ w es (fun svs w1 => ∃ ds, svs = ds.map Sv.d ∧ ds.length ≤ sizeLine ∧ O (.d (.list ds)) w1) Ox) : EvS X CA Y ρ w (.List es pos) O Ox := fun F L R H σ g i k Q Wx tk q qx =>
  toE (pe_lst (pa_w es)) (h F L R H σ g i k _ Wx tk (fun svs w1 vs F1 R1 H1 o1 s1 i1 r1 k1 => by
    obtain ⟨ds, e1, hl, o⟩ := o1
    subst e1
    have rr := rpA_of r1
    refine ⟨by rw [rr.length]; exact hl, To.lst (F := F1) (L := L) (R := R1) (ds := ds) (fun v F2 H2 s2 k2 r2 => q (.d (.list ds)) w1 v F2 R1 H2 o (s1.trans s2) (Y.mono s2 i1) r2 rfl k2) k1 rr⟩) qx)
theorem es_if (h : EvST X CA Y ρ w c (fun v w1 => (v = true → EvS X CA Y ρ w1 a O Ox) ∧ (v = false → EvS X CA Y ρ w1 b O Ox)) Ox) : EvS X CA Y ρ w (.IfExp c a b pos) O Ox := fun F L R H σ g i k Q Wx tk q qx =>
  toE (pe_ifExp (pt_w c) (pe_w a) (pe_w b)) (h F L R H σ g i k _ Wx tk (fun v w1 F1 R1 H1 o1 s1 i1 k1 => by
    cases v with
    | true =>
      rw [if_pos rfl]
      exact o1.1 rfl F1 L R1 H1 σ (g.mono s1) i1 k1 Q Wx tk (q.same s1) (qx.same s1)
    | false =>
      rw [if_neg Bool.false_ne_true]
      exact o1.2 rfl F1 L R1 H1 σ (g.mono s1) i1 k1 Q Wx tk (q.same s1) (qx.same s1)) qx)
theorem est_not (h : EvST X CA Y ρ w e (fun v w1 => OT (!v) w1) Ox) : EvST X CA Y ρ w (.UnaryOp .Not e pos) OT Ox := fun F L R H σ g i k Q Wx tk q qx => toT (pt_not (pt_w e)) (h F L R H σ g i k _ Wx tk (fun v w1 F1 R1 H1 o1 => q (!v) w1 F1 R1 H1 o1) qx)
theorem est_val (h : EvS X CA Y ρ w e (fun sv w1 => ∃ v, sv = .d (.bool v) ∧ OT v w1) Ox) (he : ∀ whole, isTrue e X.env whole = (do let v ← whole; standAt e.pos; holding [v] (truthy v)) := by intro _; rfl) : EvST X CA Y ρ w e OT Ox := fun F L R H σ g i k Q Wx tk q qx =>
  toT (pt_val (pe_w e) he) (h F L R H σ g i k _ Wx tk (fun sv w1 u F1 R1 H1 o1 s1 i1 r1 n1 k1 => by
    obtain ⟨v, e1, o⟩ := o1
    subst e1
    cases r1
    exact ⟨v, rfl, q v w1 F1 R1 H1 o s1 i1 k1⟩) qx)
theorem est_or (h : EvST X CA Y ρ w a (fun v w1 => (v = true → OT true w1) ∧ (v = false → EvST X CA Y ρ w1 b OT Ox)) Ox) : EvST X CA Y ρ w (.BoolOp .Or [a, b] pos) OT Ox := fun F L R H σ g i k Q Wx tk q qx =>
  toT (pw_or (pt_w a) (pw_or1 (pt_w b))).pt (h F L R H σ g i k _ Wx tk (fun v w1 F1 R1 H1 o1 s1 i1 k1 => by
    cases v with
    | true =>
      rw [if_pos rfl]
      exact q true w1 F1 R1 H1 (o1.1 rfl) s1 i1 k1
    | false =>
      rw [if_neg Bool.false_ne_true]
      exact o1.2 rfl F1 L R1 H1 σ (g.mono s1) i1 k1 Q Wx tk (q.same s1) (qx.same s1)) qx)
theorem est_and (h : EvST X CA Y ρ w a (fun v w1 => (v = true → EvST X CA Y ρ w1 b OT Ox) ∧ (v = false → OT false w1)) Ox) : EvST X CA Y ρ w (.BoolOp .And [a, b] pos) OT Ox := fun F L R H σ g i k Q Wx tk q qx =>
  toT (pw_and (pt_w a) (pw_and1 (pt_w b))).pt (h F L R H σ g i k _ Wx tk (fun v w1 F1 R1 H1 o1 s1 i1 k1 => by
    cases v with
    | true =>
      rw [if_pos rfl]
      exact o1.1 rfl F1 L R1 H1 σ (g.mono s1) i1 k1 Q Wx tk (q.same s1) (qx.same s1)
    | false =>
      rw [if_neg Bool.false_ne_true]
      exact q false w1 F1 R1 H1 (o1.2 rfl) s1 i1 k1) qx)
/-- f(..) by its promise; what it may raise goes on -/
theorem es_call {k' : Nat} {x : Str} {pm : Pm} (fn : FnX X k' x (lift CA pm)) (hr : Room k' X.A) (h : EvSA X CA Y ρ w (e :: es) (fun svs w1 => ∀ F L R vs, Y.I w1 F R → (∀ a, F a = none ∨ un L R a = none) → (∀ a, L a = none ∨ R a = none) → Paired (fun v sv => RpS F L v sv ∧ isOwn sv = false) vs svs →
      pm vs F (un L R) (fun v F' M' => Same F F' → ∃ sv w' R', O sv w' ∧ M' = un L R' ∧ (∀ a, L a = none ∨ R' a = none) ∧ Y.I w' F' R' ∧ RpS F' L v sv ∧ isOwn sv = false) (fun c F' M' => Same F F' → ∃ w' R', Ox c w' ∧ M' = un L R' ∧ (∀ a, L a = none ∨ R' a = none) ∧ Y.I w' F' R')) Ox)
    (hpm : ∀ vs F M q q' e e', pm vs F M q e → (∀ v F' M', q v F' M' → q' v F' M') → (∀ c F' M', e c F' M' → e' c F' M') → pm vs F M q' e')
    (hg : Gl X x := by rfl) (hdb : (x == ("__debug__" : Str)) = false := by decide)
    (he : starEach (e :: es) X.env = (false, eval e X.env) :: starEach es X.env := by rfl) (hpl : (backTo pos (starEach es X.env)).any (·.1) = false := by rfl) : EvS X CA Y ρ w (.Call (.Name x p) (e :: es) [] pos) O Ox := fun F L R H σ g i kk Q Wx tk q qx => by
  obtain ⟨f, fd, ps, fn, hm, hk, hb⟩ := fn.ex
  refine toE (pe_callS fn hr hg hm hk hb (fun τ => passAt tk τ) (pa_w _) hdb he hpl) (h F L R H σ g i kk _ Wx tk (fun svs w1 vs F1 R1 H1 o1 s1 i1 r1 k1 => ?_) qx)
  refine ⟨F1, un L R1, k1.join, hpm _ _ _ _ _ _ _ (o1 F1 L R1 vs i1 k1.join.fr k1.lr r1) (fun v F2 M2 z s2 H2 k2 => ?_) (fun c F2 M2 z s2 H2 k2 => ?_)⟩
  · obtain ⟨sv, w2, R2, o2, e2, dj, i2, r2, n2⟩ := z s2
    subst e2
    exact q sv w2 v F2 R2 H2 o2 (s1.trans s2) i2 r2 n2 (k2.part dj)
  · obtain ⟨w2, R2, o2, e2, dj, i2⟩ := z s2
    subst e2
    exact qx c w2 F2 R2 H2 o2 (s1.trans s2) i2 (k2.part dj)
end
end G
end

section
set_option Elab.async false
set_option linter.all false
set_option maxRecDepth 100000
set_option maxHeartbeats 4000000
namespace G
open PySem PySem.Spec PyProof.Rows L2

/-! ### statements -/
structure Out (W : Type) where
  nx : Rho → W → Prop
  rt : Sv → W → Prop
  ex : Str → Rho → W → Prop
  bk : Rho → W → Prop
  ct : Rho → W → Prop
structure Meets (CA : Str → Addr) (Y : Wd) (F : Hp) (D : Ends) (Wx : WX) (O : Out Y.W) : Prop where
  nx : ∀ ρ' w' F' L' R' H' σ', O.nx ρ' w' → Same F F' → Y.I w' F' R' → Sg F' L' σ' ρ' → Ok F' L' R' H' → D.nx σ' H'
  rt : ∀ sv w' v F' L' R' H', O.rt sv w' → Same F F' → Y.I w' F' R' → RpS F' L' v sv → isOwn sv = false → Ok F' L' R' H' → D.rt v H'
  ex : ∀ c ρ' w' F' L' R' H' σ', O.ex c ρ' w' → Same F F' → Y.I w' F' R' → Sg F' L' σ' ρ' → Ok F' L' R' H' → Wx (.ref (CA c)) none σ' H'
  bk : ∀ ρ' w' F' L' R' H' σ', O.bk ρ' w' → Same F F' → Y.I w' F' R' → Sg F' L' σ' ρ' → Ok F' L' R' H' → D.bk σ' H'
  ct : ∀ ρ' w' F' L' R' H' σ', O.ct ρ' w' → Same F F' → Y.I w' F' R' → Sg F' L' σ' ρ' → Ok F' L' R' H' → D.ct σ' H'
theorem Meets.same {CA : Str → Addr} {Y : Wd} {F F1 : Hp} {D : Ends} {Wx : WX} {O : Out Y.W} (s : Same F F1) (m : Meets CA Y F D Wx O) : Meets CA Y F1 D Wx O :=
  ⟨fun ρ' w' F' L' R' H' σ' o s' => m.nx ρ' w' F' L' R' H' σ' o (s.trans s'), fun sv w' v F' L' R' H' o s' => m.rt sv w' v F' L' R' H' o (s.trans s'), fun c ρ' w' F' L' R' H' σ' o s' => m.ex c ρ' w' F' L' R' H' σ' o (s.trans s'),
   fun ρ' w' F' L' R' H' σ' o s' => m.bk ρ' w' F' L' R' H' σ' o (s.trans s'), fun ρ' w' F' L' R' H' σ' o s' => m.ct ρ' w' F' L' R' H' σ' o (s.trans s')⟩
def S1 (X : Cx) (CA : Str → Addr) (Y : Wd) (ρ : Rho) (w : Y.W) (st : Stmt) (O : Out Y.W) : Prop := ∀ F L R H σ, Sg F L σ ρ → Y.I w F R → Ok F L R H → ∀ (D : Ends) (Wx : WX), Takes X Wx → Meets CA Y F D Wx O → wS X st D σ H
def SB (X : Cx) (CA : Str → Addr) (Y : Wd) (ρ : Rho) (w : Y.W) (st : List Stmt) (O : Out Y.W) : Prop := ∀ F L R H σ, Sg F L σ ρ → Y.I w F R → Ok F L R H → ∀ (D : Ends) (Wx : WX), Takes X Wx → Meets CA Y F D Wx O → wB X st D σ H
section
variable {X : Cx} {CA : Str → Addr} {Y : Wd} {ρ : Rho} {w : Y.W} {O O' : Out Y.W} {st : Stmt} {rest s1 s2 : List Stmt} {e c o tg iter : Expr} {es : List Expr} {pos p : Pos} {d : PyData} {ds : List PyData}
theorem S1.imp (h : S1 X CA Y ρ w st O') (m : ∀ F D Wx, Meets CA Y F D Wx O → Meets CA Y F D Wx O') : S1 X CA Y ρ w st O := fun F L R H σ g i k D Wx tk mm => h F L R H σ g i k D Wx tk (m F D Wx mm)
theorem SB.imp (h : SB X CA Y ρ w rest O') (m : ∀ F D Wx, Meets CA Y F D Wx O → Meets CA Y F D Wx O') : SB X CA Y ρ w rest O := fun F L R H σ g i k D Wx tk mm => h F L R H σ g i k D Wx tk (m F D Wx mm)
theorem sb_nil (h : O.nx ρ w) : SB X CA Y ρ w [] O := fun F L R H σ g i k D Wx tk m => toB pss_nil (m.nx ρ w F L R H σ h (Same.refl F) i g k)
theorem sb_cons (h : S1 X CA Y ρ w st { O with nx := fun ρ' w' => SB X CA Y ρ' w' rest O }) : SB X CA Y ρ w (st :: rest) O := fun F L R H σ g i k D Wx tk m =>
  toB (pss_cons (ps_w st) (pb_w rest)) (h F L R H σ g i k _ Wx tk ⟨fun ρ' w' F' L' R' H' σ' o s' i' g' k' => o F' L' R' H' σ' g' i' k' D Wx tk (m.same s'), m.rt, m.ex, m.bk, m.ct⟩)
theorem sb_one (h : S1 X CA Y ρ w st O) : SB X CA Y ρ w [st] O := fun F L R H σ g i k D Wx tk m => toB (pss_one (ps_w st)) (h F L R H σ g i k D Wx tk m)
/-- an own list becomes data -/
theorem sb_freeze (i : Nat) (h : ρ[i]? = some (some (.own ds))) (hs : SB X CA Y (ρ.set i (some (.d (.list ds)))) w rest O) : SB X CA Y ρ w rest O := fun F L R H σ g ii k D Wx tk m => by
  obtain ⟨v, h1, q, vs, e1, h2, h3⟩ := g.at_ i _ h
  subst e1
  have hF := none_l k.fl h2
  have sm : Same F (upd F q (.lst vs)) := same_new hF
  exact hs _ _ R H σ (g.freeze i hF h h1 h2 h3) (Y.mono sm ii) (k.freeze h2) D Wx tk (m.same sm)
theorem s1_freeze (i : Nat) (h : ρ[i]? = some (some (.own ds))) (hs : S1 X CA Y (ρ.set i (some (.d (.list ds)))) w st O) : S1 X CA Y ρ w st O := fun F L R H σ g ii k D Wx tk m => by
  obtain ⟨v, h1, q, vs, e1, h2, h3⟩ := g.at_ i _ h
  subst e1
  have hF := none_l k.fl h2
  have sm : Same F (upd F q (.lst vs)) := same_new hF
  exact hs _ _ R H σ (g.freeze i hF h h1 h2 h3) (Y.mono sm ii) (k.freeze h2) D Wx tk (m.same sm)
/-- x = e -/
theorem s_asg (i : Nat) {x : Str} (hN : X.N.Nodup) (h : EvS X CA Y ρ w e (fun sv w' => O.nx (ρ.set i (some sv)) w') (fun c w' => O.ex c ρ w')) (hi : X.N[i]? = some x := by rfl) (hx : Loc X.env.scope x := by first | exact Or.inl rfl | exact Or.inr rfl)
    (hs : swapsWith e (some (.Name x p)) pos.line X.env = pure false := by rfl) (hf : X.fn x = true ∨ X.env.scope.names.lookup x = some .local := by first | exact .inl rfl | exact .inr rfl) : S1 X CA Y ρ w (.Assign [.Name x p] e pos) O := fun F L R H σ g ii k D Wx tk m =>
  toS (ps_set hN hi hx (pe_w e) hs hf) (h F L R H σ g ii k _ Wx tk (fun sv w' v F' R' H' o s' i' r' n' k' => m.nx _ w' F' L R' H' _ o s' i' ((g.mono s').set i r' n') k') (fun c w' F' R' H' o s' i' k' => m.ex c ρ w' F' L R' H' σ o s' i' (g.mono s') k'))
/-- x = [e, ..], a list of one's own -/
theorem s_asgL (i : Nat) {x : Str} {p2 : Pos} (hN : X.N.Nodup) (h : EvSA X CA Y ρ w es (fun svs w' => ∃ ds, svs = ds.map Sv.d ∧ ds.length ≤ sizeLine ∧ O.nx (ρ.set i (some (.own ds))) w') (fun c w' => O.ex c ρ w')) (hi : X.N[i]? = some x := by rfl) (hx : Loc X.env.scope x := by first | exact Or.inl rfl | exact Or.inr rfl)
    (hs : swapsWith (.List es p2) (some (.Name x p)) pos.line X.env = pure false := by rfl) (hf : X.fn x = true ∨ X.env.scope.names.lookup x = some .local := by first | exact .inl rfl | exact .inr rfl) : S1 X CA Y ρ w (.Assign [.Name x p] (.List es p2) pos) O := fun F L R H σ g ii k D Wx tk m =>
  toS (ps_set hN hi hx (pe_lst (pa_w es)) hs hf) (h F L R H σ g ii k _ Wx tk (fun svs w' vs F' R' H' o s' i' r' k' => by
    obtain ⟨ds, e1, hl, o⟩ := o
    subst e1
    have rr := rpA_of r'
    exact ⟨by rw [rr.length]; exact hl, fun q hq => m.nx _ w' F' _ R' _ _ o s' i' ((g.mono s').setOwn i (k'.l.free hq) rr) (k'.newL hq)⟩) (fun c w' F' R' H' o s' i' k' => m.ex c ρ w' F' L R' H' σ o s' i' (g.mono s') k'))
/-- x = [.. for ..] -/
theorem s_asgC (i : Nat) {x : Str} {elt : Expr} {ifs : List Expr} {scope : Scope} {own : List (Str × Nat)} {p2 : Pos} (hc : X.calm = true) (hN : X.N.Nodup) (ok : BlkOk X.N X.env.scope scope own) (h : LcOk X (Y.om w) ρ (wI X tg iter) tg ifs elt scope own d) (o : O.nx (ρ.set i (some (.d d))) w)
    (hy : X.N[i]? = some x := by rfl) (hyl : X.env.scope.names.lookup x = some .local := by rfl) (hsw : swapsWith (.ListComp elt [⟨tg, iter, ifs, 0⟩] scope p2) (some (.Name x p)) pos.line X.env = pure true := by exact sw_true rfl rfl rfl (by decide +kernel)) (hs : ∀ x, foldedSetIterable iter X.env x = pure x := by intro _; rfl) :
    S1 X CA Y ρ w (.Assign [.Name x p] (.ListComp elt [⟨tg, iter, ifs, 0⟩] scope p2) pos) O := fun F L R H σ g ii k D Wx tk m =>
  toS (ps_setLc hc hN hy hyl hsw (pi_w tg iter) ok (fun s H1 C cl fp => ⟨fun pins s' σ H v u Q I r h => (h s H1 C cl fp).run pins s' u I r⟩) (fun s H1 C cl fp => ⟨fun pins s' σ H Q I h => (h s H1 C cl fp).run pins s' I⟩) (fun s H1 C cl fp => ⟨fun pins s' σ H Q I h => (h s H1 C cl fp).run pins s' I⟩) hs)
    (h F L R H σ g ii k _ fun v F' R' H' s' i' k' r' => m.nx _ w F' L R' H' _ o s' i' ((g.mono s').setD i r') k')
/-- tg = e, e data -/
theorem s_asgT {vs : List Nat} {ρ' : Rho} (h : Ev X (Y.om w) ρ e d) (ht : TgD X vs tg d ρ ρ') (o : O.nx ρ' w) (hs : swapsWithSole [tg] e pos.line X.env = pure false := by rfl) (hw : swappedStores [tg] e X.env = pure none := by rfl)
    (h1 : (assignEach [tg] X.env).map (·.2) = [assign tg X.env] := by rfl) : S1 X CA Y ρ w (.Assign [tg] e pos) O := fun F L R H σ g ii k D Wx tk m =>
  toS (ps_asg (pe_w e) (pg_w tg) hs hw h1) (h F L R H σ g ii k _ fun v F' R' H' s' i' k' r' => ht F' L R' H' σ v (g.mono s') k' r' _ fun σ' g' _ => m.nx ρ' w F' L R' H' σ' o s' i' g' k')
theorem s_asgTS {vs : List Nat} (h : EvS X CA Y ρ w e (fun sv w' => ∃ d ρ', sv = .d d ∧ TgD X vs tg d ρ ρ' ∧ O.nx ρ' w') (fun c w' => O.ex c ρ w')) (hs : swapsWithSole [tg] e pos.line X.env = pure false := by rfl) (hw : swappedStores [tg] e X.env = pure none := by rfl)
    (h1 : (assignEach [tg] X.env).map (·.2) = [assign tg X.env] := by rfl) : S1 X CA Y ρ w (.Assign [tg] e pos) O := fun F L R H σ g ii k D Wx tk m =>
  toS (ps_asg (pe_w e) (pg_w tg) hs hw h1) (h F L R H σ g ii k _ Wx tk (fun sv w' v F' R' H' o s' i' r' n' k' => by
    obtain ⟨d, ρ', e1, ht, o⟩ := o
    subst e1
    exact ht F' L R' H' σ v (g.mono s') k' r' _ fun σ' g' _ => m.nx ρ' w' F' L R' H' σ' o s' i' g' k') (fun c w' F' R' H' o s' i' k' => m.ex c ρ w' F' L R' H' σ o s' i' (g.mono s') k'))
/-- a, b = x, y -/
theorem s_par (i j : Nat) {x y : Str} {a b : Expr} {px py pt : Pos} {kt k2 : Nat} {pt2 : Pos} (hc : X.calm = true) (hN : X.N.Nodup) (h : EvSA X CA Y ρ w [a, b] (fun svs w' => ∃ u v, svs = [u, v] ∧ O.nx ((ρ.set i (some u)).set j (some v)) w') (fun c w' => O.ex c ρ w'))
    (hi : X.N[i]? = some x := by rfl) (hj : X.N[j]? = some y := by rfl) (hij : i ≠ j := by decide) (hx : X.env.scope.names.lookup x = some .local := by rfl) (hy : X.env.scope.names.lookup y = some .local := by rfl)
    (hP : ∀ ta : TA, PA X [a, b] ta → PS X (.Assign [.Tuple [.Name x px, .Name y py] kt pt] (.Tuple [a, b] k2 pt2) pos) (tPar i j ta) := by intro ta ha; exact ps_par (by rfl) (by assumption) (by rfl) (by rfl) (by decide) (by rfl) (by rfl) ha (by rfl)) :
    S1 X CA Y ρ w (.Assign [.Tuple [.Name x px, .Name y py] kt pt] (.Tuple [a, b] k2 pt2) pos) O := fun F L R H σ g ii k D Wx tk m =>
  toS (hP _ (pa_w _)) (h F L R H σ g ii k _ Wx tk (fun svs w' vs F' R' H' o s' i' r' k' => by
    obtain ⟨u, v, e1, o⟩ := o
    subst e1
    cases r' with
    | cons r1 r' => cases r' with
      | cons r2 r' => cases r' with
        | nil => exact ⟨_, _, rfl, m.nx _ w' F' L R' H' _ o s' i' (((g.mono s').set i r1.1 r1.2).set j r2.1 r2.2) k'⟩) (fun c w' F' R' H' o s' i' k' => m.ex c ρ w' F' L R' H' σ o s' i' (g.mono s') k'))
/-- e -/
theorem s_expr (h : EvS X CA Y ρ w e (fun _ w' => O.nx ρ w') (fun c w' => O.ex c ρ w')) (hs : swapsWith e none pos.line X.env = pure false := by rfl) : S1 X CA Y ρ w (.Expr e pos) O := fun F L R H σ g ii k D Wx tk m =>
  toS (ps_expr (pe_w e) hs) (h F L R H σ g ii k _ Wx tk (fun sv w' v F' R' H' o s' i' r' n' k' => m.nx ρ w' F' L R' H' σ o s' i' (g.mono s') k') (fun c w' F' R' H' o s' i' k' => m.ex c ρ w' F' L R' H' σ o s' i' (g.mono s') k'))
/-- xs.append(e), xs an own list -/
theorem s_app (i : Nat) {x : Str} {px apos : Pos} (hi : ρ[i]? = some (some (.own ds))) (h : EvS X CA Y ρ w e (fun sv w' => ∃ d, sv = .d d ∧ ds.length < sizeLine ∧ O.nx (ρ.set i (some (.own (ds ++ [d])))) w') (fun c w' => O.ex c ρ w'))
    (hE : ∀ (to te : TE), PE X (.Name x px) to → PE X e te → PE X (.Call (.Attribute (.Name x px) "append" apos) [e] [] p) (tBM X.K "list" rAppend to (tCons te tNil)) := by intro to te h1 h2; exact pe_bm PySem.F.plainAttrs_list PySem.F.slot_list_append PySem.F.type_list_append mt_append h1 (pa_cons h2 pa_nil))
    (hN : X.N[i]? = some x := by rfl) (hv : Vis X.env.scope x := by first | exact Or.inl rfl | exact Or.inr (Or.inl rfl) | exact Or.inr (Or.inr rfl)) (hd : (x == ("__debug__" : Str)) = false := by decide) (hcd : (x == ("__classdict__" : Str)) = false := by decide)
    (hs : swapsWith (.Call (.Attribute (.Name x px) "append" apos) [e] [] p) none pos.line X.env = pure false := by rfl) : S1 X CA Y ρ w (.Expr (.Call (.Attribute (.Name x px) "append" apos) [e] [] p) pos) O := fun F L R H σ g ii k D Wx tk m => by
  obtain ⟨v, h1, q, vs, e1, h2, h3⟩ := g.at_ i _ hi
  subst e1
  refine toS (ps_expr (hE _ _ (pe_var hN hv hd hcd) (pe_w e)) hs) ⟨_, h1, .inl ⟨rfl, vs, SqL.of (k.l _ _ h2)⟩, h F L R H σ g ii k _ Wx tk (fun sv w' v F' R' H' o s' i' r' n' k' => ?_) (fun c w' F' R' H' o s' i' k' => m.ex c ρ w' F' L R' H' σ o s' i' (g.mono s') k')⟩
  obtain ⟨d, e1, hl, o⟩ := o
  subst e1
  exact ⟨q, vs, v, rfl, rfl, k'.l _ _ h2, by rw [h3.length]; exact hl, m.nx _ w' F' _ R' _ σ o s' i' ((g.mono s').chOwn i hi h1 (RpA.append (.cons r' .nil) (h3.mono s'))) (k'.setL h2)⟩
/-- xs.extend(e), xs an own list, e a list of data -/
theorem s_ext (i : Nat) {x : Str} {px apos : Pos} (hi : ρ[i]? = some (some (.own ds))) (h : EvS X CA Y ρ w e (fun sv w' => ∃ es, sv = .d (.list es) ∧ ds.length + es.length ≤ sizeLine ∧ O.nx (ρ.set i (some (.own (ds ++ es)))) w') (fun c w' => O.ex c ρ w'))
    (hE : ∀ (to te : TE), PE X (.Name x px) to → PE X e te → PE X (.Call (.Attribute (.Name x px) "extend" apos) [e] [] p) (tBM X.K "list" rExtend to (tCons te tNil)) := by intro to te h1 h2; exact pe_bm PySem.F.plainAttrs_list PySem.F.slot_list_extend PySem.F.type_list_extend mt_extend h1 (pa_cons h2 pa_nil))
    (hN : X.N[i]? = some x := by rfl) (hv : Vis X.env.scope x := by first | exact Or.inl rfl | exact Or.inr (Or.inl rfl) | exact Or.inr (Or.inr rfl)) (hd : (x == ("__debug__" : Str)) = false := by decide) (hcd : (x == ("__classdict__" : Str)) = false := by decide)
    (hs : swapsWith (.Call (.Attribute (.Name x px) "extend" apos) [e] [] p) none pos.line X.env = pure false := by rfl) : S1 X CA Y ρ w (.Expr (.Call (.Attribute (.Name x px) "extend" apos) [e] [] p) pos) O := fun F L R H σ g ii k D Wx tk m => by
  obtain ⟨v, h1, q, vs, e1, h2, h3⟩ := g.at_ i _ hi
  subst e1
  refine toS (ps_expr (hE _ _ (pe_var hN hv hd hcd) (pe_w e)) hs) ⟨_, h1, .inl ⟨rfl, vs, SqL.of (k.l _ _ h2)⟩, h F L R H σ g ii k _ Wx tk (fun sv w' v F' R' H' o s' i' r' n' k' => ?_) (fun c w' F' R' H' o s' i' k' => m.ex c ρ w' F' L R' H' σ o s' i' (g.mono s') k')⟩
  obtain ⟨es, e1, hl, o⟩ := o
  subst e1
  cases r' with
  | lst h4 h5 =>
    exact ⟨q, _, vs, _, rfl, rfl, k'.l _ _ h2, k'.f _ _ h4, by rw [h3.length, h5.length]; exact hl, m.nx _ w' F' _ R' _ σ o s' i' ((g.mono s').chOwn i hi h1 (RpA.append h5 (h3.mono s'))) (k'.setL h2)⟩
theorem s_if (h : EvST X CA Y ρ w c (fun v w' => (v = true → SB X CA Y ρ w' s1 O) ∧ (v = false → SB X CA Y ρ w' s2 O)) (fun c w' => O.ex c ρ w')) : S1 X CA Y ρ w (.If c s1 s2 pos) O := fun F L R H σ g ii k D Wx tk m =>
  toS (ps_if (pt_w c) (pb_w s1) (pb_w s2)) (h F L R H σ g ii k _ Wx tk (fun v w' F' R' H' o s' i' k' => by
    cases v with
    | true =>
      rw [if_pos rfl]
      exact o.1 rfl F' L R' H' σ (g.mono s') i' k' D Wx tk (m.same s')
    | false =>
      rw [if_neg Bool.false_ne_true]
      exact o.2 rfl F' L R' H' σ (g.mono s') i' k' D Wx tk (m.same s')) (fun c w' F' R' H' o s' i' k' => m.ex c ρ w' F' L R' H' σ o s' i' (g.mono s') k'))
theorem s_ret (h : EvS X CA Y ρ w e (fun sv w' => O.rt sv w') (fun c w' => O.ex c ρ w')) : S1 X CA Y ρ w (.Return (some e) pos) O := fun F L R H σ g ii k D Wx tk m =>
  toS (ps_ret (pe_w e)) (h F L R H σ g ii k _ Wx tk (fun sv w' v F' R' H' o s' i' r' n' k' => m.rt sv w' v F' L R' H' o s' i' r' n' k') (fun c w' F' R' H' o s' i' k' => m.ex c ρ w' F' L R' H' σ o s' i' (g.mono s') k'))
theorem s_retN (h : O.rt (.d .none) w) : S1 X CA Y ρ w (.Return none pos) O := fun F L R H σ g ii k D Wx tk m => toS ps_retN (m.rt (.d .none) w .non F L R H h (Same.refl F) ii .non rfl k)
theorem s_pass (h : O.nx ρ w) : S1 X CA Y ρ w (.Pass pos) O := fun F L R H σ g ii k D Wx tk m => toS ps_pass (m.nx ρ w F L R H σ h (Same.refl F) ii g k)
/-- raise C('..') -/
theorem s_raise {x mm : Str} {C : Addr} {j : Nat} {p1 p2 p3 : Pos} {bmB : List Value} {B newId initId : String} (hc : X.calm = true) (Fb : ExcBaseFacts B newId initId bmB) (q : PySem.W.excIn X.K C bmB newId = true) (gC : X.mg x = some (.ref C)) (kC : PySem.W.keepIn X.K (.ref C) = true) (r : Raises X (.ref C)) (hCA : CA x = C) (h : O.ex x ρ w)
    (hg : Gl X x := by rfl) (hdb : (x == ("__debug__" : Str)) = false := by decide) : S1 X CA Y ρ w (.Raise (some (.Call (.Name x p1) [.Constant (.str mm) j p2] [] p3)) none pos) O := fun F L R H σ g ii k D Wx tk m => by
  subst hCA
  exact toS (ps_raise hc tk (pmk_own Fb q gC kC r hg hdb)) (m.ex x ρ w F L R H σ h (Same.refl F) ii g k)
/-- for tg in iter: body, over the things xs -/
theorem s_for {α : Type} (xs : List α) (enc : α → PyData) {vs : List Nat} (hp : PassesOwn (model X.prog X.w) X.A X.env X.xe) (hc : X.calm = true) (hi : EvI X (Y.om w) ρ tg iter (xs.map enc)) (Pv : Nat → Rho → Y.W → Prop) (h0 : Pv 0 ρ w)
    (hs : ∀ (i : Nat) (x : α) ρ' w', xs[i]? = some x → Pv i ρ' w' → ∃ ρ'', TgD X vs tg (enc x) ρ' ρ'' ∧ SB X CA Y ρ'' w' s1 { nx := Pv (i + 1), ct := Pv (i + 1), bk := O.nx, rt := O.rt, ex := O.ex }) (hd : ∀ ρ' w', Pv xs.length ρ' w' → O.nx ρ' w')
    (hf : ∀ x, foldedSetIterable iter X.env x = pure x := by intro _; rfl) : S1 X CA Y ρ w (.For tg iter s1 [] pos) O := fun F L R H σ g ii k D Wx tk m => by
  refine toS (ps_for hp hc (pi_w tg iter) (pg_w tg) (pb_w s1) hf) (hi F L R H σ g ii k _ fun J F1 R1 H1 s1' i1' k1 gd => ?_)
  refine ⟨fun i mm σ' H' => mm = xs.length - i ∧ i ≤ xs.length ∧ ∃ F' L' R' ρ' w', Same F1 F' ∧ Pv i ρ' w' ∧ Sg F' L' σ' ρ' ∧ Y.I w' F' R' ∧ Ok F' L' R' H', ⟨xs.length, by simp, Nat.zero_le _, F1, L, R1, ρ, w, Same.refl _, h0, g.mono s1', i1', k1⟩, ?_⟩
  rintro i mm σ' H' ⟨rfl, hile, F', L', R', ρ', w', sm, pv, g', i', k'⟩
  have sB : Same F1 H' := sm.trans k'.f
  by_cases hlt : i < xs.length
  · have hx : xs[i]? = some xs[i] := List.getElem?_eq_getElem hlt
    have hgd := gd.1 H' sB i (enc xs[i]) (by rw [List.getElem?_map, hx]; rfl)
    obtain ⟨ρ'', ht, hb⟩ := hs i xs[i] ρ' w' hx pv
    refine .inr ⟨hgd.1, fun σ2 H2 => ∃ F' L' R' ρ' w', Same F1 F' ∧ Pv (i + 1) ρ' w' ∧ Sg F' L' σ2 ρ' ∧ Y.I w' F' R' ∧ Ok F' L' R' H2, fun σ2 H2 h => ⟨xs.length - (i + 1), by omega, rfl, hlt, h⟩, fun x H2 hy => ?_⟩
    obtain ⟨e2, rx⟩ := hgd.2 x H2 hy
    subst e2
    refine ht F' L' R' H2 σ' x g' k' (rx.mono sm) _ fun σ2 g2 _ => ?_
    refine hb F' L' R' H2 σ2 g2 i' k' _ Wx tk ⟨?_, ?_, ?_, ?_, ?_⟩
    · exact fun ρ3 w3 F3 L3 R3 H3 σ3 o3 s3 i3 g3 k3 => ⟨F3, L3, R3, ρ3, w3, sm.trans s3, o3, g3, i3, k3⟩
    · exact fun sv w3 v F3 L3 R3 H3 o3 s3 => m.rt sv w3 v F3 L3 R3 H3 o3 ((s1'.trans sm).trans s3)
    · exact fun c ρ3 w3 F3 L3 R3 H3 σ3 o3 s3 => m.ex c ρ3 w3 F3 L3 R3 H3 σ3 o3 ((s1'.trans sm).trans s3)
    · exact fun ρ3 w3 F3 L3 R3 H3 σ3 o3 s3 => m.nx ρ3 w3 F3 L3 R3 H3 σ3 o3 ((s1'.trans sm).trans s3)
    · exact fun ρ3 w3 F3 L3 R3 H3 σ3 o3 s3 i3 g3 k3 => ⟨F3, L3, R3, ρ3, w3, sm.trans s3, o3, g3, i3, k3⟩
  · have ei : i = xs.length := by omega
    subst ei
    refine .inl ⟨?_, m.nx ρ' w' F' L' R' H' σ' (hd ρ' w' pv) (s1'.trans sm) i' g' k'⟩
    have := gd.2 H' sB
    rw [List.length_map] at this
    exact this
/-- while c: body, by a measure -/
theorem s_while (hp : PassesOwn (model X.prog X.w) X.A X.env X.xe) (Pv : Nat → Rho → Y.W → Prop) (n0 : Nat) (h0 : Pv n0 ρ w)
    (hs : ∀ n ρ' w', Pv n ρ' w' → EvST X CA Y ρ' w' c (fun v w2 => (v = true → SB X CA Y ρ' w2 s1 { nx := fun ρ3 w3 => ∃ n', n' < n ∧ Pv n' ρ3 w3, ct := fun ρ3 w3 => ∃ n', n' < n ∧ Pv n' ρ3 w3, bk := O.nx, rt := O.rt, ex := O.ex }) ∧ (v = false → O.nx ρ' w2)) (fun c w2 => O.ex c ρ' w2)) :
    S1 X CA Y ρ w (.While c s1 [] pos) O := fun F L R H σ g ii k D Wx tk m => by
  refine toS (ps_while hp (pt_w c) (pb_w s1)) ⟨fun n σ' H' => ∃ F' L' R' ρ' w', Same F F' ∧ Pv n ρ' w' ∧ Sg F' L' σ' ρ' ∧ Y.I w' F' R' ∧ Ok F' L' R' H', ⟨n0, F, L, R, ρ, w, Same.refl _, h0, g, ii, k⟩, ?_⟩
  rintro n σ' H' ⟨F', L', R', ρ', w', sm, pv, g', i', k'⟩
  refine hs n ρ' w' pv F' L' R' H' σ' g' i' k' _ Wx tk (fun v w2 F2 R2 H2 o2 s2 i2 k2 => ?_) (fun c w2 F2 R2 H2 o2 s2 i2 k2 => m.ex c ρ' w2 F2 L' R2 H2 σ' o2 (sm.trans s2) i2 (g'.mono s2) k2)
  cases v with
  | true =>
    rw [if_pos rfl]
    refine ⟨fun σ3 H3 => ∃ n', n' < n ∧ ∃ F' L' R' ρ' w', Same F F' ∧ Pv n' ρ' w' ∧ Sg F' L' σ3 ρ' ∧ Y.I w' F' R' ∧ Ok F' L' R' H3, fun σ3 H3 h => h, ?_⟩
    refine o2.1 rfl F2 L' R2 H2 σ' (g'.mono s2) i2 k2 _ Wx tk ⟨?_, ?_, ?_, ?_, ?_⟩
    · rintro ρ3 w3 F3 L3 R3 H3 σ3 ⟨n', hn, o3⟩ s3 i3 g3 k3
      exact ⟨n', hn, F3, L3, R3, ρ3, w3, (sm.trans s2).trans s3, o3, g3, i3, k3⟩
    · exact fun sv w3 v F3 L3 R3 H3 o3 s3 => m.rt sv w3 v F3 L3 R3 H3 o3 ((sm.trans s2).trans s3)
    · exact fun c ρ3 w3 F3 L3 R3 H3 σ3 o3 s3 => m.ex c ρ3 w3 F3 L3 R3 H3 σ3 o3 ((sm.trans s2).trans s3)
    · exact fun ρ3 w3 F3 L3 R3 H3 σ3 o3 s3 => m.nx ρ3 w3 F3 L3 R3 H3 σ3 o3 ((sm.trans s2).trans s3)
    · rintro ρ3 w3 F3 L3 R3 H3 σ3 ⟨n', hn, o3⟩ s3 i3 g3 k3
      exact ⟨n', hn, F3, L3, R3, ρ3, w3, (sm.trans s2).trans s3, o3, g3, i3, k3⟩
  | false =>
    rw [if_neg Bool.false_ne_true]
    exact m.nx ρ' w2 F2 L' R2 H2 σ' (o2.2 rfl) (sm.trans s2) i2 (g'.mono s2) k2
end

/-! ### defs -/
def startR (n : Nat) (ds : List PyData) : Rho := ds.map (fun d => some (Sv.d d)) ++ List.replicate (n - ds.length) none
def outD (o : Res) : Out Unit := ⟨fun _ _ => o = .ok .none, fun sv _ => ∃ d, sv = .d d ∧ o = .ok d, fun c _ _ => o = .ex c, fun _ _ => False, fun _ _ => False⟩
theorem Ok.drop {F L R H : Hp} (k : Ok F L R H) : Ok F no R H := ⟨k.f, (fun _ _ e => by cases e), k.r, fun _ => .inr rfl, k.fr, fun _ => .inl rfl⟩
theorem rpA_at {F : Hp} {vs : List V} {ds : List PyData} (r : RpA F vs ds) (n : Nat) : Sg F no (vs.map some ++ List.replicate (n - vs.length) none) (startR n ds) := by
  have hl := r.length
  refine ⟨fun i sv e => ?_, fun i j ds' es' p e1 _ _ _ => ?_, by simp [startR, hl]⟩
  · unfold startR at e
    by_cases hi : i < ds.length
    · rw [List.getElem?_append_left (by simpa using hi), List.getElem?_map] at e
      rw [List.getElem?_append_left (by rw [List.length_map, hl]; exact hi), List.getElem?_map]
      cases q : ds[i]? with
      | none =>
        rw [q] at e
        cases e
      | some d =>
        rw [q] at e
        cases e
        obtain ⟨v, h1, h2⟩ := r.get q
        exact ⟨v, by rw [h1]; rfl, h2⟩
    · rw [List.getElem?_append_right (by simpa using hi)] at e
      rw [List.getElem?_replicate] at e
      split at e <;> cases e
  · unfold startR at e1
    by_cases hi : i < ds.length
    · rw [List.getElem?_append_left (by simpa using hi), List.getElem?_map] at e1
      cases q : ds[i]? with
      | none =>
        rw [q] at e1
        cases e1
      | some d =>
        rw [q] at e1
        cases e1
    · rw [List.getElem?_append_right (by simpa using hi), List.getElem?_replicate] at e1
      split at e1 <;> cases e1
section
variable {P : Program} {w : World} {K : PySem.W.Frag} {mg : Str → Option Value} {base : Heap} {CA : Str → Addr}
/-- a def on data -/
theorem fn_data {x qual : Str} {params : Arguments} {body : List Stmt} {scope : Scope} {dvs : List V} {kws : List (Str × V)} {f : Addr} {fd : FuncData} {N ps : List Str} {k : Nat} {rel : List PyData → Res → Prop} (Fd : FunD K x qual params body scope dvs kws f fd) (S : FnScope N ps scope) (len : ∀ ds o, rel ds o → ds.length = ps.length)
    (hbody : ∀ (cdv : Value) (A : Around) (outer : List Env) (s : Shared) (H : Hp) (E : XK) (R0 : Hp), Room k (A.deeper (envOfC qual scope s.heap.objs.size f cdv)) → ∀ ds o, rel ds o →
      SB (cxOf (L2.CX P w) P w K mg base N qual scope f cdv A outer s H E) CA (pureW R0) (startR N.length ds) () body (outD o)) : FnOk P w K mg base (L2.CX P w) (k + 1) f fd ps (lift CA (pmD rel)) := by
  refine Fd.ok S (fun vs H Q E h => ?_) (fun cdv A outer s H vs Q E hr h => ⟨_, pb_w _, ?_⟩)
  · obtain ⟨F, M, _, ds, o, r, h1, _⟩ := h
    rw [r.length]
    exact len ds o h1
  · obtain ⟨F, M, kk, ds, o, r, h1, h2⟩ := h
    have ht : Takes (cxOf (L2.CX P w) P w K mg base N qual scope f cdv A outer s H E) (fun cls d _ H => E cls d H) := takes_of rfl rfl rfl rfl
    refine hbody cdv A outer s H E M hr ds o h1 F no M H (start N vs) ?_ rfl kk _ _ ht ⟨?_, ?_, ?_, ?_, ?_⟩
    · exact rpA_at r N.length
    · rintro ρ' w' F' L' R' H' σ' e s' i' g' k'
      have e1 : o = .ok .none := e
      have e2 : R' = M := i'
      subst e1 e2
      exact h2 _ F' s' .non s' H' k'.drop
    · rintro sv w' v F' L' R' H' ⟨d, e0, e⟩ s' i' r' n' k'
      have e2 : R' = M := i'
      subst e0 e e2
      exact h2 _ F' s' r' s' H' k'.drop
    · rintro c ρ' w' F' L' R' H' σ' e s' i' g' k'
      have e1 : o = .ex c := e
      have e2 : R' = M := i'
      subst e1 e2
      exact h2 F' s' s' H' k'.drop
    · exact fun _ _ _ _ _ _ _ o' => o'.elim
    · exact fun _ _ _ _ _ _ _ o' => o'.elim
/-- any def: the state's part Y, its start, its ends are the prover's -/
theorem fn_any {x qual : Str} {params : Arguments} {body : List Stmt} {scope : Scope} {dvs : List V} {kws : List (Str × V)} {f : Addr} {fd : FuncData} {N ps : List Str} {k : Nat} {pm : Pm} (Fd : FunD K x qual params body scope dvs kws f fd) (S : FnScope N ps scope) (len : ∀ vs F M q e, pm vs F M q e → vs.length = ps.length)
    (hbody : ∀ (cdv : Value) (A : Around) (outer : List Env) (s : Shared) (H : Hp) (E : XK), Room k (A.deeper (envOfC qual scope s.heap.objs.size f cdv)) → ∀ vs F M q e, pm vs F M q e → ∃ (Y : Wd) (w0 : Y.W) (ρ : Rho) (O : Out Y.W), Sg F no (start N vs) ρ ∧ Y.I w0 F M ∧
      SB (cxOf (L2.CX P w) P w K mg base N qual scope f cdv A outer s H E) CA Y ρ w0 body O ∧
      (∀ ρ' w' F' R', O.nx ρ' w' → Same F F' → Y.I w' F' R' → q .non F' R') ∧ (∀ sv w' v F' L' R', O.rt sv w' → Same F F' → Y.I w' F' R' → RpS F' L' v sv → isOwn sv = false → q v F' R') ∧ (∀ c ρ' w' F' R', O.ex c ρ' w' → Same F F' → Y.I w' F' R' → e c F' R') ∧ (∀ ρ' w', ¬ O.bk ρ' w') ∧ (∀ ρ' w', ¬ O.ct ρ' w')) :
    FnOk P w K mg base (L2.CX P w) (k + 1) f fd ps (lift CA pm) := by
  refine Fd.ok S (fun vs H Q E h => ?_) (fun cdv A outer s H vs Q E hr h => ⟨_, pb_w _, ?_⟩)
  · obtain ⟨F, M, _, h1⟩ := h
    exact len _ _ _ _ _ h1
  · obtain ⟨F, M, kk, h1⟩ := h
    have ht : Takes (cxOf (L2.CX P w) P w K mg base N qual scope f cdv A outer s H E) (fun cls d _ H => E cls d H) := takes_of rfl rfl rfl rfl
    obtain ⟨Y, w0, ρ, O, g, i, hb, h2, h3, h4, h5, h6⟩ := hbody cdv A outer s H E hr vs F M _ _ h1
    refine hb F no M H (start N vs) g i kk _ _ ht ⟨?_, ?_, ?_, ?_, ?_⟩
    · exact fun ρ' w' F' L' R' H' σ' o s' i' g' k' => h2 ρ' w' F' R' o s' i' s' H' k'.drop
    · exact fun sv w' v F' L' R' H' o s' i' r' n' k' => h3 sv w' v F' L' R' o s' i' r' n' s' H' k'.drop
    · exact fun c ρ' w' F' L' R' H' σ' o s' i' g' k' => h4 c ρ' w' F' R' o s' i' s' H' k'.drop
    · exact fun ρ' w' _ _ _ _ _ o' => (h5 ρ' w' o').elim
    · exact fun ρ' w' _ _ _ _ _ o' => (h6 ρ' w' o').elim
end
end G
end

section
set_option Elab.async false
set_option linter.all false
set_option maxRecDepth 100000
set_option maxHeartbeats 4000000
/-! rules that the layer lacks: t[::-1] of a tuple, text * int -/
namespace GX
open PySem PyProof.Rows
section
variable {prog : Program} {w : World} {A : Around} {E : Value → Shared → Prop} {s : Shared}
theorem sliceApplied_rev {sl : Addr} {vl vu vs : Value} {n : Nat} {Q : Int × Int × Nat → Shared → Prop} (hs : s.heap.IsSliceOf sl vl vu vs) (pl : IsPart vl none) (pu : IsPart vu none) (ps : IsPart vs (some (-1)))
    (h : Q ((n : Int) - 1, -1, n) s) : wpAny (model prog w) A (Builtin.Slice.sliceApplied (.ref sl) (pure (n : Int))) Q E s := by
  obtain ⟨os, hos, hcs, hds⟩ := id hs
  unfold Builtin.Slice.sliceApplied Builtin.Slice.sliceFields
  refine wpAny_bind (wpAny_bind (wpAny_field hos hds (x := vl) rfl (wpAny_bind (wpAny_field hos hds (x := vu) rfl (wpAny_bind (wpAny_field hos hds (x := vs) rfl (wpAny_pure ?_)))))))
  refine wpAny_bind (HT.slicePart_ ps ?_)
  show wpAny _ _ (if ((-1 : Int) == 0) = true then _ else _) _ _ s
  rw [if_neg (by decide)]
  refine wpAny_bind (HT.slicePart_ pl (wpAny_bind (HT.slicePart_ pu (wpAny_bind (wpAny_pure ?_)))))
  have e : Builtin.Slice.sliceAdjust none none (-1) (n : Int) = ((n : Int) - 1, -1) := rfl
  show wpAny _ _ (match Builtin.Slice.sliceAdjust none none (-1) (n : Int) with | (lo, hi) => pure (lo, (-1 : Int), Builtin.Slice.slicePlaces lo hi (-1))) _ _ s
  rw [e]
  have e2 : Builtin.Slice.slicePlaces ((n : Int) - 1) (-1) (-1) = n := by
    unfold Builtin.Slice.slicePlaces
    have h1 : ¬ ((-1 : Int) > 0) := by omega
    rw [if_neg h1]
    by_cases h0 : n = 0
    · subst h0
      rfl
    · rw [if_pos (by omega)]
      have : -(-1 : Int) = 1 := rfl
      rw [this, Int.ediv_one]
      omega
  show wpAny _ _ (pure ((n : Int) - 1, (-1 : Int), Builtin.Slice.slicePlaces ((n : Int) - 1) (-1) (-1))) _ _ s
  rw [e2]
  exact wpAny_pure h
theorem filterMap_map {α β : Type} {f : α → Option β} {g : α → β} : ∀ {l : List α}, (∀ m ∈ l, f m = some (g m)) → l.filterMap f = l.map g
  | [], _ => rfl
  | a :: r, h => by
    rw [List.filterMap_cons, h a List.mem_cons_self, List.map_cons, filterMap_map fun m hm => h m (List.mem_cons_of_mem _ hm)]
theorem pick_rev (xs : Array Value) : ((List.range xs.size).filterMap fun (m : Nat) => xs[(((xs.size : Nat) : Int) - 1 + (m : Int) * (-1)).toNat]?).toArray = xs.toList.reverse.toArray := by
  congr 1
  apply List.ext_getElem?
  intro i
  have hf : (List.range xs.size).filterMap (fun (m : Nat) => xs[(((xs.size : Nat) : Int) - 1 + (m : Int) * (-1)).toNat]?) = (List.range xs.size).map (fun m => xs.toList.getD (xs.size - 1 - m) .none) := by
    refine filterMap_map fun m hm => ?_
    have hm' : m < xs.size := by simpa using hm
    have e : (((xs.size : Nat) : Int) - 1 + (m : Int) * (-1)).toNat = xs.size - 1 - m := by omega
    rw [e]
    have hl : xs.size - 1 - m < xs.size := by omega
    simp [hl]
  rw [hf]
  by_cases hi : i < xs.size
  · rw [List.getElem?_map, List.getElem?_range hi, List.getElem?_reverse (by simpa using hi)]
    have hl : xs.size - 1 - i < xs.size := by omega
    simp [hl]
  · rw [List.getElem?_eq_none (by simpa using hi), List.getElem?_eq_none (by simpa using hi)]
theorem getItem_tuple_rev {t sl : Addr} {items : Array Value} {vl vu vs : Value} {Q : Value → Shared → Prop} (ht : IsTup s.heap t items) (hs : s.heap.IsSliceOf sl vl vu vs) (pl : IsPart vl none) (pu : IsPart vu none) (ps : IsPart vs (some (-1)))
    (h : Q (.ref s.heap.objs.size) { s with heap := s.heap.push { cls := .type "tuple", data := .seq items.toList.reverse.toArray } })
    (hsz : items.size ≤ sizeLine) : wpAny (model prog w) A (getItem (.ref t) (.ref sl)) Q E s := by
  have htake : sizeOk (.seq items.toList.reverse.toArray) := by
    show items.toList.reverse.toArray.size ≤ sizeLine
    simpa using hsz
  obtain ⟨os, hos, hcs, hds⟩ := id hs
  have hTs : s.TypeIs (.ref sl) "slice" := ⟨os, hos, hcs⟩
  unfold getItem
  try with_reducible refine wpAny_holding ?_
  first | refine wpAny_bind (wpAny_pure ?_) | skip
  refine wpAny_bind (wpAny_sequenceKey ht.typeIs (by decide) ?_)
  refine wpAny_bind (wpAny_callSpecial?_slot (name := Str.ofString "__getitem__") ht.typeIs PyProof.Rows.slot_tuple_getitem
    (wpAny_call_entry PyProof.Rows.slot_tuple_getitem ht.typeIs entry_tuple_getitem ?_ (args_tuple_getitem _ _)))
  show wpAny _ _ (Builtin.Tuple.tupleItemsOf (.ref t) >>= _) _ _ s
  refine wpAny_bind (tupleItemsOf_ ht ?_)
  refine wpAny_bind (wpAny_typeOf hTs ?_)
  rw [if_pos (by decide)]
  refine wpAny_bind (sliceApplied_rev hs pl pu ps ?_)
  have hno : ¬ ((((items.size : Nat) : Int) - 1 == 0 && (-1 : Int) == 1 && items.size == items.size) = true) := by
    intro q
    rw [Bool.and_eq_true, Bool.and_eq_true] at q
    exact absurd q.1.2 (by decide)
  show wpAny _ _ (if (((items.size : Nat) : Int) - 1 == 0 && (-1 : Int) == 1 && items.size == items.size) = true then _ else _) _ _ s
  rw [if_neg hno, pick_rev]
  first
    | exact wpAny_bind (m := Builtin.Tuple.tupleExact _) (wpAny_newObj_type (wpAny_pure ⟨_, rfl, wpAny_pure h⟩) htake)
    | exact wpAny_bind (m := Builtin.Tuple.tupleExact _) (wpAny_newObj_type (wpAny_bind (wpAny_pure (wpAny_pure ⟨_, rfl, wpAny_pure h⟩))) htake)
    | exact wpAny_bind (wpAny_bind (m := Builtin.Tuple.tupleExact _) (wpAny_newObj_type (wpAny_pure (wpAny_pure ⟨_, rfl, wpAny_pure h⟩)) htake))
    | exact wpAny_bind (wpAny_bind (m := Builtin.Tuple.tupleExact _) (wpAny_newObj_type (wpAny_pure ⟨_, rfl, wpAny_pure h⟩) htake))
end
end GX
namespace L2
open PySem PySem.Spec PyProof.Rows
section
variable {X : Cx}
def tRevT (K : PySem.W.Frag) (te : TE) : TE := fun σ H Q => te σ H fun x H1 => ∃ a xs, x = .ref a ∧ SqT K H1 a xs ∧ ∀ p, H1 p = none → Q (.ref p) (upd H1 p (.tup xs.reverse))
theorem pe_revT {e : Expr} {te : TE} {k : Nat} {p1 p2 p3 pos : Pos} (he : PE X e te) : PE X (.Subscript e (.Slice none none (some (.UnaryOp .USub (.Constant (.int 1) k p1) p2)) p3) pos) (tRevT X.K te) := by
  refine ⟨fun pins s σ H Q I h => ?_⟩
  refine Subscript_ (thn (he.run pins s σ H _ I h) fun v s1 ⟨x, H1, I1, r1, q1⟩ => ?_)
  obtain ⟨a, xs, ex, hx, q⟩ := q1
  subst ex
  cases r1
  have hst : PO X (some (.UnaryOp .USub (.Constant (.int 1) k p1) p2)) (tPart (tUn (rU fun i => .int (-i)) (tC (.int 1)))) := po_some (pe_un un_neg pe_int)
  refine wpAny_Slice (thn (po_none.run pins s1 σ H1 (fun o H2 => o = none ∧ H2 = H1) I1 ⟨rfl, rfl⟩) fun vl s2 ⟨l, H2, I2, pl, el, e2⟩ => ?_)
  subst el e2
  refine thn (po_none.run pins s2 σ H2 (fun o H3 => o = none ∧ H3 = H2) I2 ⟨rfl, rfl⟩) fun vu s3 ⟨u, H3, I3, pu, eu, e3⟩ => ?_
  subst eu e3
  refine thn (hst.run pins s3 σ H3 (fun o H4 => o = some (-1) ∧ H4 = H3) I3 ⟨1, rfl, -1, rfl, rfl, rfl⟩) fun vs s4 ⟨o, H4, I4, ps, eo, e4⟩ => ?_
  subst eo e4
  have I5 : Inv X pins σ H4 { s4 with heap := s4.heap.push { cls := .type "slice", data := .fields #[vl, vu, vs] } } := I4.kept (t' := s4.toks) fun b ob q => Heap.get?_push_of_some _ q
  obtain ⟨its, r, ht, hz⟩ := I5.tuple hx
  have hlen := r.length
  show wpAny (model X.prog X.w) X.A (subscriptTail e (.Slice none none (some (.UnaryOp .USub (.Constant (.int 1) k p1) p2)) p3) (.ref a) (.ref s4.heap.objs.size)) (EP X pins σ Q) X.xe { s4 with heap := s4.heap.push { cls := .type "slice", data := .fields #[vl, vu, vs] } }
  refine tail_any (ops := [.ref a, .ref s4.heap.objs.size]) ht.typeIs PyProof.Rows.slot_tuple_getitem.lookup ?_ (by with_unfolding_all rfl)
  refine GX.getItem_tuple_rev ht (Heap.IsSliceOf.new _ vl vu vs) pl pu ps ?_ (by rw [List.size_toArray]; omega)
  refine ⟨.ref _, _, I5.laid (t' := s4.toks) (o := .tup xs.reverse) (fun b ob q => Heap.get?_push_of_some _ q) (Nat.le_refl _) ?_, rfl, q _ (I5.hok.fresh (Nat.le_refl _))⟩
  refine ⟨by rw [List.length_reverse]; exact hz, _, r.reverse, ?_⟩
  exact ⟨_, Heap.get?_push_size _ rfl, rfl, 0, by simp⟩
/-- text * int -/
theorem op_mulS : OpR X (binaryOp .Mult) (fun x y H Q => ∃ z n, x = .str z ∧ y = .int n ∧ MulOk z n ∧ Q (.str (Txt.mul z n)) H) := by
  intro pins s σ H x y v u Q I rx ry h
  obtain ⟨z, n, rfl, rfl, hk, q⟩ := h
  obtain ⟨t, rfl⟩ := rx
  obtain ⟨t', rfl⟩ := ry
  exact SB.mul hk fun t2 k => ⟨.str _, H, I.tok _, ⟨_, rfl⟩, q⟩
end
end L2
end

section
set_option Elab.async false
set_option linter.all false
set_option maxRecDepth 100000
set_option maxHeartbeats 4000000
namespace G
open PySem PySem.Spec PyProof.Rows L2

section
variable {X : Cx} {Ω : Om} {ρ : Rho} {a b c e : Expr} {es : List Expr} {pos p : Pos} {d da db : PyData} {ds : List PyData}
theorem ea_one (h : Ev X Ω ρ e d) (hs : starEach [e] X.env = [(false, eval e X.env)] := by rfl) : EvA X Ω ρ [e] [d] := ea_cons h ea_nil hs
/-! len -/
theorem cd_lenL {K : PySem.W.Frag} : ClD (fun xs H Q => ∃ p ys, xs = [.ref p] ∧ (SqL K H p ys ∨ SqT K H p ys) ∧ Q (.int ys.length) H) [.list ds] (.int ds.length) := fun F L R H vs k r Q q => by
  cases r with
  | cons r1 r2 =>
    cases r2
    cases r1 with
    | lst h1 h2 => exact ⟨_, _, rfl, .inl (SqL.of (k.f _ _ h1)), by rw [h2.length]; exact q.here k (.int _)⟩
theorem cd_lenT {K : PySem.W.Frag} : ClD (fun xs H Q => ∃ p ys, xs = [.ref p] ∧ (SqL K H p ys ∨ SqT K H p ys) ∧ Q (.int ys.length) H) [.tuple ds] (.int ds.length) := fun F L R H vs k r Q q => by
  cases r with
  | cons r1 r2 =>
    cases r2
    cases r1 with
    | tup h1 h2 => exact ⟨_, _, rfl, .inr (SqT.of (k.f _ _ h1)), by rw [h2.length]; exact q.here k (.int _)⟩
theorem ev_lenL (hm : X.mg "len" = none) (h : Ev X Ω ρ e (.list ds)) (hg : Gl X "len" := by rfl) (he : starEach [e] X.env = (false, eval e X.env) :: starEach [] X.env := by rfl) (hpl : (backTo pos (starEach [] X.env)).any (·.1) = false := by rfl) : Ev X Ω ρ (.Call (.Name "len" p) [e] [] pos) (.int ds.length) := ev_callB call_len_seq cd_lenL hm PySem.boot_len (ea_one h he) hg (by decide) (by decide) he hpl
theorem ev_lenT (hm : X.mg "len" = none) (h : Ev X Ω ρ e (.tuple ds)) (hg : Gl X "len" := by rfl) (he : starEach [e] X.env = (false, eval e X.env) :: starEach [] X.env := by rfl) (hpl : (backTo pos (starEach [] X.env)).any (·.1) = false := by rfl) : Ev X Ω ρ (.Call (.Name "len" p) [e] [] pos) (.int ds.length) := ev_callB call_len_seq cd_lenT hm PySem.boot_len (ea_one h he) hg (by decide) (by decide) he hpl
theorem ev_lenS {z : Str} (hm : X.mg "len" = none) (h : Ev X Ω ρ e (.str z)) (hz : z.length ≤ sizeLine) (hg : Gl X "len" := by rfl) (he : starEach [e] X.env = (false, eval e X.env) :: starEach [] X.env := by rfl) (hpl : (backTo pos (starEach [] X.env)).any (·.1) = false := by rfl) : Ev X Ω ρ (.Call (.Name "len" p) [e] [] pos) (.int z.length) :=
  ev_callB call_len_str (fun F L R H vs k r Q q => by
    cases r with
    | cons r1 r2 =>
      cases r2
      cases r1
      exact ⟨z, rfl, hz, q.here k (.int _)⟩) hm PySem.boot_len (ea_one h he) hg (by decide) (by decide) he hpl
/-- len of an own list -/
theorem ev_lenO (i : Nat) {x : Str} {px : Pos} (hm : X.mg "len" = none) (h : ρ[i]? = some (some (.own ds))) (hN : X.N[i]? = some x := by rfl) (hv : Vis X.env.scope x := by first | exact Or.inl rfl | exact Or.inr (Or.inl rfl) | exact Or.inr (Or.inr rfl)) (hd : (x == ("__debug__" : Str)) = false := by decide)
    (hcd : (x == ("__classdict__" : Str)) = false := by decide) (hg : Gl X "len" := by rfl) : Ev X Ω ρ (.Call (.Name "len" p) [.Name x px] [] pos) (.int ds.length) := fun F L R H σ g om k Q q => by
  obtain ⟨v, h1, p', vs, e1, h2, h3⟩ := g.at_ i _ h
  subst e1
  refine toE (pe_callB call_len_seq hg hm PySem.boot_len (pa_cons (pe_var hN hv hd hcd) pa_nil)) ⟨_, h1, _, _, rfl, .inl (SqL.of (k.l _ _ h2)), ?_⟩
  rw [h3.length]
  exact q.here om k (.int _)
/-! all, any, sum, min, max -/
theorem ev_all {bs : List Bool} (hc : X.calm = true) (hm : X.mg "all" = none) (h : Ev X Ω ρ e (.list (bs.map PyData.bool))) (hg : Gl X "all" := by rfl) (he : starEach [e] X.env = (false, eval e X.env) :: starEach [] X.env := by rfl) (hpl : (backTo pos (starEach [] X.env)).any (·.1) = false := by rfl) : Ev X Ω ρ (.Call (.Name "all" p) [e] [] pos) (.bool (bs.all id)) :=
  ev_callB (cr_all hc) (fun F L R H vs k r Q q => by
    cases r with
    | cons r1 r2 =>
      cases r2
      cases r1 with
      | lst h1 h2 =>
        rw [h2.bls] at h1
        exact ⟨_, bs, rfl, SqL.of (k.f _ _ h1), q.here k (.bl _)⟩) hm (by decide +kernel) (ea_one h he) hg (by decide) (by decide) he hpl
theorem ev_any {bs : List Bool} (hc : X.calm = true) (hm : X.mg "any" = none) (h : Ev X Ω ρ e (.list (bs.map PyData.bool))) (hg : Gl X "any" := by rfl) (he : starEach [e] X.env = (false, eval e X.env) :: starEach [] X.env := by rfl) (hpl : (backTo pos (starEach [] X.env)).any (·.1) = false := by rfl) : Ev X Ω ρ (.Call (.Name "any" p) [e] [] pos) (.bool (bs.any id)) :=
  ev_callB (cr_any hc) (fun F L R H vs k r Q q => by
    cases r with
    | cons r1 r2 =>
      cases r2
      cases r1 with
      | lst h1 h2 =>
        rw [h2.bls] at h1
        exact ⟨_, bs, rfl, SqL.of (k.f _ _ h1), q.here k (.bl _)⟩) hm (by decide +kernel) (ea_one h he) hg (by decide) (by decide) he hpl
theorem ev_sum {ns : List Int} (hc : X.calm = true) (hm : X.mg "sum" = none) (h : Ev X Ω ρ e (.list (ns.map PyData.int))) (hg : Gl X "sum" := by rfl) (he : starEach [e] X.env = (false, eval e X.env) :: starEach [] X.env := by rfl) (hpl : (backTo pos (starEach [] X.env)).any (·.1) = false := by rfl) : Ev X Ω ρ (.Call (.Name "sum" p) [e] [] pos) (.int ns.sum) :=
  ev_callB (cr_sum hc) (fun F L R H vs k r Q q => by
    cases r with
    | cons r1 r2 =>
      cases r2
      cases r1 with
      | lst h1 h2 =>
        rw [h2.ints] at h1
        exact ⟨_, ns, rfl, SqL.of (k.f _ _ h1), q.here k (.int _)⟩) hm (by decide +kernel) (ea_one h he) hg (by decide) (by decide) he hpl
theorem ev_min {ns : List Int} {z : Int} (hc : X.calm = true) (hm : X.mg "min" = none) (h : Ev X Ω ρ e (.list (ns.map PyData.int))) (hz : z ∈ ns) (hl : ∀ y ∈ ns, z ≤ y) (hg : Gl X "min" := by rfl) (he : starEach [e] X.env = (false, eval e X.env) :: starEach [] X.env := by rfl) (hpl : (backTo pos (starEach [] X.env)).any (·.1) = false := by rfl) : Ev X Ω ρ (.Call (.Name "min" p) [e] [] pos) (.int z) :=
  ev_callB (cr_min hc) (fun F L R H vs k r Q q => by
    cases r with
    | cons r1 r2 =>
      cases r2
      cases r1 with
      | lst h1 h2 =>
        rw [h2.ints] at h1
        refine ⟨_, ns, rfl, SqL.of (k.f _ _ h1), List.length_pos_of_mem hz, fun m hm hle => ?_⟩
        have e : m = z := Int.le_antisymm (hle z hz) (hl m hm)
        rw [e]
        exact q.here k (.int _)) hm (by decide +kernel) (ea_one h he) hg (by decide) (by decide) he hpl
theorem ev_max {ns : List Int} {z : Int} (hc : X.calm = true) (hm : X.mg "max" = none) (h : Ev X Ω ρ e (.list (ns.map PyData.int))) (hz : z ∈ ns) (hl : ∀ y ∈ ns, y ≤ z) (hg : Gl X "max" := by rfl) (he : starEach [e] X.env = (false, eval e X.env) :: starEach [] X.env := by rfl) (hpl : (backTo pos (starEach [] X.env)).any (·.1) = false := by rfl) : Ev X Ω ρ (.Call (.Name "max" p) [e] [] pos) (.int z) :=
  ev_callB (cr_max hc) (fun F L R H vs k r Q q => by
    cases r with
    | cons r1 r2 =>
      cases r2
      cases r1 with
      | lst h1 h2 =>
        rw [h2.ints] at h1
        refine ⟨_, ns, rfl, SqL.of (k.f _ _ h1), List.length_pos_of_mem hz, fun m hm hle => ?_⟩
        have e : m = z := Int.le_antisymm (hl m hm) (hle z hz)
        rw [e]
        exact q.here k (.int _)) hm (by decide +kernel) (ea_one h he) hg (by decide) (by decide) he hpl
/-! tuple(xs), int(flag) -/
theorem ev_tuple (hm : X.mg "tuple" = none) (h : Ev X Ω ρ e (.list ds)) (hg : Gl X "tuple" := by rfl) (he : starEach [e] X.env = (false, eval e X.env) :: starEach [] X.env := by rfl) (hpl : (backTo pos (starEach [] X.env)).any (·.1) = false := by rfl) : Ev X Ω ρ (.Call (.Name "tuple" p) [e] [] pos) (.tuple ds) :=
  ev_callTy call_tuple_of (fun F L R H vs k r Q q => by
    cases r with
    | cons r1 r2 =>
      cases r2
      cases r1 with
      | lst h1 h2 => exact ⟨_, _, rfl, .inl ⟨SqL.of (k.f _ _ h1), q.tup k h2⟩⟩) hm (by decide +kernel) (ea_one h he) hg (by decide) (by decide) he hpl
theorem ev_intB {v : Bool} (hm : X.mg "int" = none) (h : Ev X Ω ρ e (.bool v)) (hg : Gl X "int" := by rfl) (he : starEach [e] X.env = (false, eval e X.env) :: starEach [] X.env := by rfl) (hpl : (backTo pos (starEach [] X.env)).any (·.1) = false := by rfl) : Ev X Ω ρ (.Call (.Name "int" p) [e] [] pos) (.int (if v then 1 else 0)) :=
  ev_callTy call_int1 (fun F L R H vs k r Q q => by
    cases r with
    | cons r1 r2 =>
      cases r2
      cases r1
      exact .inr ⟨v, rfl, q.here k (.int _)⟩) hm (by decide +kernel) (ea_one h he) hg (by decide) (by decide) he hpl
/-! texts -/
theorem ev_joinL {z : Str} {ys : List Str} {apos : Pos} (ha : Ev X Ω ρ a (.str z)) (hb : Ev X Ω ρ b (.list (ys.map PyData.str))) (hz : (ys.map (·.length)).sum + ys.length * z.length ≤ 16777216) (hs : starEach [b] X.env = [(false, eval b X.env)] := by rfl) (hbase : attributeBase a "join" X.env (eval a X.env) = eval a X.env := by rfl)
    (hline : (apos.endLine == pos.line) = true := by rfl) : Ev X Ω ρ (.Call (.Attribute a "join" apos) [b] [] pos) (.str (Txt.join z ys)) := fun F L R H σ g om k Q q =>
  toE (pe_join (pe_w a) (pe_w b) hs hbase hline) (ha F L R H σ g om k _ fun x F1 R1 H1 s1 o1 k1 r1 => by
    cases r1
    exact ⟨⟨_, rfl⟩, hb F1 L R1 H1 σ (g.mono s1) o1 k1 _ fun y F2 R2 H2 s2 o2 k2 r2 => by
      cases r2 with
      | lst h1 h2 =>
        rw [h2.strs] at h1
        exact ⟨z, _, ys, rfl, rfl, .inl (SqL.of (k2.f _ _ h1)), hz, q _ _ _ _ (s1.trans s2) o2 k2 (.str _)⟩⟩)
theorem ev_joinT {z : Str} {ys : List Str} {apos : Pos} (ha : Ev X Ω ρ a (.str z)) (hb : Ev X Ω ρ b (.tuple (ys.map PyData.str))) (hz : (ys.map (·.length)).sum + ys.length * z.length ≤ 16777216) (hs : starEach [b] X.env = [(false, eval b X.env)] := by rfl) (hbase : attributeBase a "join" X.env (eval a X.env) = eval a X.env := by rfl)
    (hline : (apos.endLine == pos.line) = true := by rfl) : Ev X Ω ρ (.Call (.Attribute a "join" apos) [b] [] pos) (.str (Txt.join z ys)) := fun F L R H σ g om k Q q =>
  toE (pe_join (pe_w a) (pe_w b) hs hbase hline) (ha F L R H σ g om k _ fun x F1 R1 H1 s1 o1 k1 r1 => by
    cases r1
    exact ⟨⟨_, rfl⟩, hb F1 L R1 H1 σ (g.mono s1) o1 k1 _ fun y F2 R2 H2 s2 o2 k2 r2 => by
      cases r2 with
      | tup h1 h2 =>
        rw [h2.strs] at h1
        exact ⟨z, _, ys, rfl, rfl, .inr (SqT.of (k2.f _ _ h1)), hz, q _ _ _ _ (s1.trans s2) o2 k2 (.str _)⟩⟩)
theorem ev_mulS {z : Str} {n : Int} (ha : Ev X Ω ρ a (.str z)) (hb : Ev X Ω ρ b (.int n)) (hk : MulOk z n) : Ev X Ω ρ (.BinOp a .Mult b pos) (.str (Txt.mul z n)) := ev_op op_mulS (fun F L R H x y k rx ry Q q => by
  cases rx
  cases ry
  exact ⟨z, n, rfl, rfl, hk, q.here k (.str _)⟩) ha hb
/-! turned round -/
theorem ev_revT {n : Nat} {p1 p2 p3 : Pos} (h : Ev X Ω ρ e (.tuple ds)) : Ev X Ω ρ (.Subscript e (.Slice none none (some (.UnaryOp .USub (.Constant (.int 1) n p1) p2)) p3) pos) (.tuple ds.reverse) := fun F L R H σ g om k Q q =>
  toE (pe_revT (pe_w e)) (h F L R H σ g om k _ fun x F1 R1 H1 s1 o1 k1 r1 => by
    cases r1 with
    | tup h1 h2 => exact ⟨_, _, rfl, SqT.of (k1.f _ _ h1), To.tup ((q.same s1).to o1) k1 h2.reverse⟩)
theorem ev_revL {n : Nat} {p1 p2 p3 : Pos} (h : Ev X Ω ρ e (.list ds)) : Ev X Ω ρ (.Subscript e (.Slice none none (some (.UnaryOp .USub (.Constant (.int 1) n p1) p2)) p3) pos) (.list ds.reverse) := fun F L R H σ g om k Q q =>
  toE (pe_revL (pe_w e)) (h F L R H σ g om k _ fun x F1 R1 H1 s1 o1 k1 r1 => by
    cases r1 with
    | lst h1 h2 => exact ⟨_, _, rfl, SqL.of (k1.f _ _ h1), To.lst ((q.same s1).to o1) k1 h2.reverse⟩)
theorem rpA_rep {F : Hp} {vs : List V} (r : RpA F vs ds) : ∀ n : Nat, RpA F (List.replicate n vs).flatten (List.replicate n ds).flatten
  | 0 => .nil
  | n + 1 => by
    rw [List.replicate_succ, List.flatten_cons, List.replicate_succ, List.flatten_cons]
    exact RpA.append (rpA_rep r n) r
theorem ev_rep {n : Int} (ha : Ev X Ω ρ a (.list ds)) (hb : Ev X Ω ρ b (.int n)) (h1 : -(2 ^ 63) ≤ n) (h2 : n < 2 ^ 63) (hz : ds.length * n.toNat ≤ sizeLine) : Ev X Ω ρ (.BinOp a .Mult b pos) (.list (List.replicate n.toNat ds).flatten) := ev_op op_rep (fun F L R H x y k rx ry Q q => by
  cases ry
  cases rx with
  | lst h3 h4 => exact ⟨_, n, _, rfl, rfl, k.f _ _ h3, h1, h2, by rw [h4.length]; exact hz, q.lst k (rpA_rep h4 n.toNat)⟩) ha hb
theorem ev_repT {n : Int} (ha : Ev X Ω ρ a (.tuple ds)) (hb : Ev X Ω ρ b (.int n)) (hne : ds ≠ []) (h1 : 2 ≤ n) (h2 : n ≤ 1000) (hz : ds.length ≤ 1000) : Ev X Ω ρ (.BinOp a .Mult b pos) (.tuple (List.replicate n.toNat ds).flatten) := ev_op op_repT (fun F L R H x y k rx ry Q q => by
  cases ry
  cases rx with
  | tup h3 h4 => exact ⟨_, n, _, rfl, rfl, SqT.of (k.f _ _ h3), fun z => hne (by have := h4.length; rw [z] at this; exact List.eq_nil_of_length_eq_zero this.symm), h1, h2, by rw [h4.length]; exact hz, q.tup k (rpA_rep h4 n.toNat)⟩) ha hb
end

/-! ### sorted(xs) of data: the one stable arrangement -/
def RR {β : Type} (F : Hp) (enc : β → PyData) (v : Value) (b : β) : Prop := ∃ x, RelV x v ∧ Rp F x (enc b)
theorem rr_each {β : Type} {F : Hp} {enc : β → PyData} : ∀ {xs : List V} {us : List Value} {bs : List β}, Vals xs us → RpA F xs (bs.map enc) → PySem.W.EachIs (RR F enc) us bs
  | _, _, [], .nil, .nil => .nil
  | _, _, b :: bs, .cons r1 r2, .cons h1 h2 => .cons ⟨_, r1, h1⟩ (rr_each r2 h2)
theorem rr_back {β : Type} {F : Hp} {enc : β → PyData} : ∀ {us : List Value} {bs : List β}, PySem.W.EachIs (RR F enc) us bs → ∃ xs, Vals xs us ∧ RpA F xs (bs.map enc)
  | _, _, .nil => ⟨[], .nil, .nil⟩
  | _, _, .cons ⟨x, r1, h1⟩ t => by
    obtain ⟨xs, r2, h2⟩ := rr_back t
    exact ⟨x :: xs, .cons r1 r2, .cons h1 h2⟩
def rSortD {β : Type} (enc : β → PyData) : List V → Hp → VK → Prop := fun vs H Q => ∃ (a : Addr) (xs : List V) (bs : List β) (F : Hp), vs = [V.ref a] ∧ Same F H ∧ F a = some (.lst xs) ∧ RpA F xs (bs.map enc) ∧ PySem.W.AllAlike (bs.map enc) ∧ PySem.W.Sortable (bs.map enc) ∧ (∀ b ∈ bs, (enc b).depth ≤ 64) ∧
  ∀ (ys : List V) (p : Addr), RpA F ys ((bs.mergeSort (PySem.W.dataLe false enc)).map enc) → H p = none → Q (.ref p) (upd H p (.lst ys))
theorem cr_sortD {X : Cx} {β : Type} {enc : β → PyData} (hu : X.A.units + 100 < cLine) : CallR X (.builtin "sorted") (rSortD enc) := by
  intro pins s σ H vs us Q I r h
  obtain ⟨a, xs, bs, F, rfl, sm, ha, hx, al, so, dp, q⟩ := h
  obtain ⟨its, rv, hl, hz⟩ := I.list (SqL.of (K := X.K) (sm _ _ ha))
  rw [Vals.ref1 r]
  have e := rr_each rv hx
  have hn : its.length = bs.length := e.length
  have er : PySem.W.EachIs (fun v b => ∃ as, Reads s.heap v (enc b) as) its bs := e.mono fun v b ⟨x, r1, h1⟩ => Dp.reads I (enc b) x v (h1.dp sm) r1
  refine PySem.W.sorted_data hl.isList e er al so (by rw [← hn, ← rv.length]; exact hz) (fun b hb => by have := dp b hb; omega) fun out ho eo => ?_
  obtain ⟨ys, ry, hy⟩ := rr_back eo
  obtain ⟨ep, he'⟩ := PyProof.Rows.sortedAll_at s.heap its out.toArray
  have hlen : ys.length ≤ sizeLine := by
    have h1 := ry.length
    have h2 := rv.length
    omega
  exact ⟨.ref _, upd H (s.heap.objs.size + 1) (.lst ys), I.laid (t' := s.toks) (fun _ _ => PyProof.Rows.sortedAll_old) (Nat.le_succ _) ⟨hlen, out, ep, ry, by simpa using he'⟩, rfl, q ys _ hy (I.hok.fresh (Nat.le_succ _))⟩
theorem ev_sorted {X : Cx} {ρ : Rho} {e : Expr} {p pos : Pos} {β : Type} {enc : β → PyData} {bs : List β} (hu : X.A.units + 100 < cLine) (hm : X.mg "sorted" = none) (h : Ev X Ω ρ e (.list (bs.map enc))) (al : PySem.W.AllAlike (bs.map enc)) (so : PySem.W.Sortable (bs.map enc)) (dp : ∀ b ∈ bs, (enc b).depth ≤ 64) (hg : Gl X "sorted" := by rfl)
    (he : starEach [e] X.env = (false, eval e X.env) :: starEach [] X.env := by rfl) (hpl : (backTo pos (starEach [] X.env)).any (·.1) = false := by rfl) : Ev X Ω ρ (.Call (.Name "sorted" p) [e] [] pos) (.list ((bs.mergeSort (PySem.W.dataLe false enc)).map enc)) :=
  ev_callB (cr_sortD hu) (fun F L R H vs k r Q q => by
    cases r with
    | cons r1 r2 =>
      cases r2
      cases r1 with
      | lst h1 h2 => exact ⟨_, _, bs, F, rfl, k.f, h1, h2, al, so, dp, fun ys p' hy hp => q.lst k hy p' hp⟩) hm (by decide +kernel) (ea_one h he) hg (by decide) (by decide) he hpl
end G
end

section
set_option Elab.async false
set_option linter.all false
set_option maxRecDepth 100000
set_option maxHeartbeats 4000000
namespace G
open PySem PySem.Spec PyProof.Rows L2
/-! ### small things -/
theorem atI_zero {α : Type} (x : α) (xs : List α) : atI (x :: xs) 0 = some x := by
  simp [atI, ixN]
theorem atI_neg {α : Type} (xs : List α) (h : xs ≠ []) : atI xs (-1) = some (xs.getLast h) := by
  have := atI_last xs.dropLast (xs.getLast h)
  rw [List.dropLast_concat_getLast h] at this
  exact this
theorem atI_map {α β : Type} (f : α → β) (xs : List α) (i : Int) : atI (xs.map f) i = (atI xs i).map f := by
  unfold atI
  rw [List.length_map]
  cases ixN xs.length i with
  | none => rfl
  | some n =>
    show (xs.map f)[n]? = (xs[n]?).map f
    rw [List.getElem?_map]
/-- a comprehension within a comprehension -/
theorem blkOk_in {X : Cx} {scope inner : Scope} {own : List (Str × Nat)} {s : Shared} {H : Hp} {C : Addr} {cl : List (Str × Addr)} {fp : List Addr} (N : List Str) (sc : Scope) (h : blkC N (relS scope sc) inner own = true) (hN : X.N = N := by rfl) (hs : X.env.scope = sc := by rfl) :
    BlkOk (Bk X scope s H C cl fp).N (Bk X scope s H C cl fp).env.scope inner own := by
  subst hN hs
  exact blkOk_by (sc := relS scope X.env.scope) h
section
variable {X : Cx} {Ω : Om} {ρ : Rho} {a b c e : Expr} {pos p : Pos} {d da db : PyData} {i j : Int} {x y : Str}
theorem od_eqI : OpD rEq (.int i) (.int j) (.bool (decide (i = j))) := fun F L R H v w k rx ry Q q => by
  cases rx
  cases ry
  refine ⟨rfl, ?_⟩
  rw [dec_int, Bool.beq_eq_decide_eq]
  exact q.here k (.bl _)
theorem od_neI : OpD rNe (.int i) (.int j) (.bool (!decide (i = j))) := fun F L R H v w k rx ry Q q => by
  cases rx
  cases ry
  refine ⟨rfl, ?_⟩
  rw [dec_int, Bool.beq_eq_decide_eq]
  exact q.here k (.bl _)
theorem od_eqS : OpD rEq (.str x) (.str y) (.bool (decide (x = y))) := fun F L R H v w k rx ry Q q => by
  cases rx
  cases ry
  refine ⟨rfl, ?_⟩
  have e : decide (V.str x = V.str y) = decide (x = y) := by
    by_cases h : x = y
    · subst h
      simp
    · rw [decide_eq_false h, decide_eq_false fun z => h (V.str.inj z)]
  rw [e]
  exact q.here k (.bl _)
theorem od_neS : OpD rNe (.str x) (.str y) (.bool (!decide (x = y))) := fun F L R H v w k rx ry Q q => by
  cases rx
  cases ry
  refine ⟨rfl, ?_⟩
  have e : decide (V.str x = V.str y) = decide (x = y) := by
    by_cases h : x = y
    · subst h
      simp
    · rw [decide_eq_false h, decide_eq_false fun z => h (V.str.inj z)]
  rw [e]
  exact q.here k (.bl _)
theorem ev_eqI (ha : Ev X Ω ρ a (.int i)) (hb : Ev X Ω ρ b (.int j)) : Ev X Ω ρ (.Compare a [.Eq] [b] pos) (.bool (decide (i = j))) := ev_cmp op_eq od_eqI ha hb (nomark _)
theorem et_eqI (ha : Ev X Ω ρ a (.int i)) (hb : Ev X Ω ρ b (.int j)) : EvT X Ω ρ (.Compare a [.Eq] [b] pos) (decide (i = j)) := et_cmp op_eq od_eqI ha hb (nomark _)
theorem et_neI (ha : Ev X Ω ρ a (.int i)) (hb : Ev X Ω ρ b (.int j)) : EvT X Ω ρ (.Compare a [.NotEq] [b] pos) (!decide (i = j)) := et_cmp op_ne od_neI ha hb (nomark _)
theorem ev_eqS (ha : Ev X Ω ρ a (.str x)) (hb : Ev X Ω ρ b (.str y)) : Ev X Ω ρ (.Compare a [.Eq] [b] pos) (.bool (decide (x = y))) := ev_cmp op_eq od_eqS ha hb (nomark _)
theorem et_eqS (ha : Ev X Ω ρ a (.str x)) (hb : Ev X Ω ρ b (.str y)) : EvT X Ω ρ (.Compare a [.Eq] [b] pos) (decide (x = y)) := et_cmp op_eq od_eqS ha hb (nomark _)
theorem et_neS (ha : Ev X Ω ρ a (.str x)) (hb : Ev X Ω ρ b (.str y)) : EvT X Ω ρ (.Compare a [.NotEq] [b] pos) (!decide (x = y)) := et_cmp op_ne od_neS ha hb (nomark _)
theorem ev_neg (ha : Ev X Ω ρ a (.int i)) : Ev X Ω ρ (.UnaryOp .USub a pos) (.int (-i)) := fun F L R H σ g om k Q q => toE (pe_un un_neg (pe_w a)) (ha F L R H σ g om k _ fun v F1 R1 H1 s1 o1 k1 r1 => by
  cases r1
  exact ⟨i, rfl, q _ F1 R1 H1 s1 o1 k1 (.int _)⟩)
theorem ev_allF {α : Type} {xs : List α} {f : α → Bool} (hc : X.calm = true) (hm : X.mg "all" = none) (h : Ev X Ω ρ e (.list (xs.map fun x => .bool (f x)))) (hg : Gl X "all" := by rfl) (he : starEach [e] X.env = (false, eval e X.env) :: starEach [] X.env := by rfl) (hpl : (backTo pos (starEach [] X.env)).any (·.1) = false := by rfl) : Ev X Ω ρ (.Call (.Name "all" p) [e] [] pos) (.bool (xs.all f)) :=
  (ev_all (bs := xs.map f) hc hm (h.is (by rw [List.map_map]; rfl)) hg he hpl).is (by rw [List.all_map]; rfl)
theorem ev_anyF {α : Type} {xs : List α} {f : α → Bool} (hc : X.calm = true) (hm : X.mg "any" = none) (h : Ev X Ω ρ e (.list (xs.map fun x => .bool (f x)))) (hg : Gl X "any" := by rfl) (he : starEach [e] X.env = (false, eval e X.env) :: starEach [] X.env := by rfl) (hpl : (backTo pos (starEach [] X.env)).any (·.1) = false := by rfl) : Ev X Ω ρ (.Call (.Name "any" p) [e] [] pos) (.bool (xs.any f)) :=
  (ev_any (bs := xs.map f) hc hm (h.is (by rw [List.map_map]; rfl)) hg he hpl).is (by rw [List.any_map]; rfl)
/-- if c: .. (no else), c known: -/
theorem sb_no {CA : Str → Addr} {Y : Wd} {w : Y.W} {O : Out Y.W} {s1 rest : List Stmt} {v : Bool} (h : EvT X (Y.om w) ρ c v) (hv : v = false) (k : SB X CA Y ρ w rest O) : SB X CA Y ρ w (.If c s1 [] pos :: rest) O :=
  sb_cons (s_if (h.s ⟨(fun z => by rw [hv] at z; cases z), fun _ => sb_nil k⟩))
theorem sb_yes {CA : Str → Addr} {Y : Wd} {w : Y.W} {O : Out Y.W} {s1 s2 rest : List Stmt} {v : Bool} (h : EvT X (Y.om w) ρ c v) (hv : v = true) (k : SB X CA Y ρ w s1 { O with nx := fun ρ' w' => SB X CA Y ρ' w' rest O }) : SB X CA Y ρ w (.If c s1 s2 pos :: rest) O :=
  sb_cons (s_if (h.s ⟨fun _ => k, fun z => by rw [hv] at z; cases z⟩))
/-- if c: .. (no else), c open -/
theorem sb_when {CA : Str → Addr} {Y : Wd} {w : Y.W} {O : Out Y.W} {v : Bool} {s1 rest : List Stmt} (h : EvT X (Y.om w) ρ c v) (k1 : v = true → SB X CA Y ρ w s1 { O with nx := fun ρ' w' => SB X CA Y ρ' w' rest O }) (k2 : v = false → SB X CA Y ρ w rest O) : SB X CA Y ρ w (.If c s1 [] pos :: rest) O :=
  sb_cons (s_if (h.s ⟨k1, fun z => sb_nil (k2 z)⟩))
/-! range(n), n not negative, as natural numbers -/
theorem upFrom_zero (n : Nat) : upFrom 0 n = (List.range n).map fun i : Nat => (i : Int) := by
  unfold upFrom
  exact List.map_congr_left fun i _ => Int.zero_add _
theorem ei_rangeN {tg : Expr} {n : Nat} (hm : X.mg "range" = none) (ha : Ev X Ω ρ a (.int (n : Int))) (h1 : n ≤ 1000000) (hg : Gl X "range" := by rfl) (hs : starEach [a] X.env = [(false, eval a X.env)] := by rfl) :
    EvI X Ω ρ tg (.Call (.Name "range" p) [a] [] pos) ((List.range n).map fun i : Nat => PyData.int (i : Int)) := by
  have h := ei_range1 (tg := tg) (p := p) (pos := pos) hm ha (by omega) (by omega) hg hs
  rw [upFrom_zero, List.map_map] at h
  exact h
end
end G
end

section
set_option Elab.async false
set_option linter.all false
set_option maxRecDepth 100000
set_option maxHeartbeats 4000000
/-! ### data: what can be laid, how deep, equal -/
namespace Da
open PySem PySem.PyData
/-- d can be compared, at most n deep -/
structure Fit (n : Nat) (d : PyData) : Prop where
  lay : d.canLay0 = true
  dep : d.depth ≤ n
theorem Fit.shaped {n : Nat} {d : PyData} (h : Fit n d) (hn : n ≤ 64 := by decide) : SeqAt.shaped d = true := by
  show (d.canLay0 && decide (d.depth ≤ 64)) = true
  rw [h.lay, decide_eq_true (Nat.le_trans h.dep hn)]
  rfl
theorem Fit.up {n m : Nat} {d : PyData} (h : Fit n d) (hn : n ≤ m) : Fit m d := ⟨h.lay, Nat.le_trans h.dep hn⟩
theorem fit_int {n : Nat} (i : Int) : Fit n (.int i) := ⟨by simp [canLay0], by simp [depth]⟩
theorem fit_bool {n : Nat} (b : Bool) : Fit n (.bool b) := ⟨by simp [canLay0], by simp [depth]⟩
theorem fit_none {n : Nat} : Fit n .none := ⟨by simp [canLay0], by simp [depth]⟩
theorem fit_str {n : Nat} {x : Str} (h : strOk x = true) : Fit n (.str x) := ⟨by simp [canLay0, h], by simp [depth]⟩
theorem lay_all : ∀ {ds : List PyData}, (∀ d ∈ ds, d.canLay0 = true) → canLayAll0 ds = true
  | [], _ => by simp [canLayAll0]
  | d :: ds, h => by
    simp only [canLayAll0, Bool.and_eq_true]
    exact ⟨h d List.mem_cons_self, lay_all fun x hx => h x (List.mem_cons_of_mem _ hx)⟩
theorem dep_all {n : Nat} : ∀ {ds : List PyData}, (∀ d ∈ ds, d.depth ≤ n) → depthAll ds ≤ n
  | [], _ => by simp [depthAll]
  | d :: ds, h => by
    have h1 := h d List.mem_cons_self
    have h2 := dep_all fun x hx => h x (List.mem_cons_of_mem _ hx)
    simp only [depthAll]
    omega
theorem fit_list {n : Nat} {ds : List PyData} (h : ∀ d ∈ ds, Fit n d) : Fit (n + 1) (.list ds) := by
  refine ⟨by simp only [canLay0]; exact lay_all fun d hd => (h d hd).lay, ?_⟩
  have := dep_all fun d hd => (h d hd).dep
  simp only [depth]
  omega
theorem fit_tup {n : Nat} {ds : List PyData} (h : ∀ d ∈ ds, Fit n d) : Fit (n + 1) (.tuple ds) := by
  refine ⟨by simp only [canLay0]; exact lay_all fun d hd => (h d hd).lay, ?_⟩
  have := dep_all fun d hd => (h d hd).dep
  simp only [depth]
  omega
theorem fit_map {n : Nat} {α : Type} {xs : List α} {f : α → PyData} (h : ∀ x ∈ xs, Fit n (f x)) : ∀ d ∈ xs.map f, Fit n d := fun d hd => by
  obtain ⟨x, hx, rfl⟩ := List.mem_map.mp hd
  exact h x hx
theorem fit_cons {n : Nat} {d : PyData} {ds : List PyData} (h : Fit n d) (h' : ∀ x ∈ ds, Fit n x) : ∀ x ∈ d :: ds, Fit n x := fun x hx => by
  rcases List.mem_cons.mp hx with rfl | hx
  · exact h
  · exact h' x hx
theorem fit_nil {n : Nat} : ∀ x ∈ ([] : List PyData), Fit n x := fun x hx => by cases hx
/-! equal -/
theorem eq_int (i j : Int) : PyData.eqv (.int i) (.int j) = decide (i = j) := by
  simp only [PyData.eqv]
  rw [Bool.beq_eq_decide_eq]
theorem eq_str (x y : Str) : PyData.eqv (.str x) (.str y) = decide (x = y) := by
  simp only [PyData.eqv]
  by_cases h : x = y
  · subst h
    simp
  · rw [decide_eq_false h]
    exact beq_eq_false_iff_ne.mpr h
theorem eq_all {α : Type} {f : α → PyData} : ∀ {xs ys : List α}, (∀ a ∈ xs, ∀ b ∈ ys, PyData.eqv (f a) (f b) = true ↔ a = b) → (PyData.eqvAll (xs.map f) (ys.map f) = true ↔ xs = ys)
  | [], [], _ => by simp [PyData.eqvAll]
  | [], b :: ys, _ => by simp [PyData.eqvAll]
  | a :: xs, [], _ => by simp [PyData.eqvAll]
  | a :: xs, b :: ys, h => by
    have h1 := h a List.mem_cons_self b List.mem_cons_self
    have h2 := eq_all (xs := xs) (ys := ys) fun x hx y hy => h x (List.mem_cons_of_mem _ hx) y (List.mem_cons_of_mem _ hy)
    simp only [List.map_cons, PyData.eqvAll, Bool.and_eq_true, List.cons.injEq]
    rw [h1, h2]
theorem eq_list {α : Type} [DecidableEq α] {f : α → PyData} {xs ys : List α} (h : ∀ a ∈ xs, ∀ b ∈ ys, PyData.eqv (f a) (f b) = true ↔ a = b) : PyData.eqv (.list (xs.map f)) (.list (ys.map f)) = decide (xs = ys) := by
  have e := eq_all h
  simp only [PyData.eqv]
  by_cases q : xs = ys
  · rw [decide_eq_true q]
    exact e.mpr q
  · rw [decide_eq_false q]
    cases z : PyData.eqvAll (xs.map f) (ys.map f) with
    | false => rfl
    | true => exact absurd (e.mp z) q
theorem eq_tup {α : Type} [DecidableEq α] {f : α → PyData} {xs ys : List α} (h : ∀ a ∈ xs, ∀ b ∈ ys, PyData.eqv (f a) (f b) = true ↔ a = b) : PyData.eqv (.tuple (xs.map f)) (.tuple (ys.map f)) = decide (xs = ys) := by
  have e := eq_all h
  simp only [PyData.eqv]
  by_cases q : xs = ys
  · rw [decide_eq_true q]
    exact e.mpr q
  · rw [decide_eq_false q]
    cases z : PyData.eqvAll (xs.map f) (ys.map f) with
    | false => rfl
    | true => exact absurd (e.mp z) q
theorem dec_same {p : Prop} (i j : Decidable p) : @decide p i = @decide p j := by
  cases i <;> cases j <;> first | rfl | contradiction
theorem dec_iff {p q : Prop} [Decidable p] [Decidable q] (h : p ↔ q) : decide p = decide q := by
  by_cases hp : p
  · rw [decide_eq_true hp, decide_eq_true (h.mp hp)]
  · rw [decide_eq_false hp, decide_eq_false fun z => hp (h.mpr z)]
theorem any_eq {α : Type} [DecidableEq α] {f : α → PyData} {xs : List α} {a : α} (h : ∀ x ∈ xs, PyData.eqv (f x) (f a) = true ↔ x = a) : ((xs.map f).any fun z => PyData.eqv z (f a)) = decide (a ∈ xs) := by
  by_cases q : a ∈ xs
  · rw [decide_eq_true q]
    exact List.any_eq_true.mpr ⟨f a, List.mem_map.mpr ⟨a, q, rfl⟩, (h a q).mpr rfl⟩
  · rw [decide_eq_false q]
    cases z : (xs.map f).any fun z => PyData.eqv z (f a) with
    | false => rfl
    | true =>
      obtain ⟨d, h1, h2⟩ := List.any_eq_true.mp z
      obtain ⟨x, h3, rfl⟩ := List.mem_map.mp h1
      exact absurd ((h x h3).mp h2 ▸ h3) q
end Da
namespace G
open PySem PySem.Spec PyProof.Rows L2
theorem u64 {k : Nat} {A : Around} (hr : Room k A) : A.units + 64 < cLine := by
  have := hr.un
  omega
theorem u65 {k : Nat} {A : Around} (hr : Room k A) : A.units + 65 < cLine := by
  have := hr.un
  omega
theorem u100 {k : Nat} {A : Around} (hr : Room k A) : A.units + 100 < cLine := by
  have := hr.un
  omega
section
variable {X : Cx} {CA : Str → Addr} {Y : Wd} {ρ : Rho} {w : Y.W} {e : Expr} {es : List Expr} {pos p : Pos} {O : Sv → Y.W → Prop} {Ox : Str → Y.W → Prop}
/-- f(..), data in; data out or an exception -/
theorem es_callD {k : Nat} {x : Str} {rel : List PyData → Res → Prop} {ds : List PyData} {o : Res} (fn : FnX X k x (lift CA (pmD rel))) (hr : Room k X.A) (ha : EvA X (Y.om w) ρ (e :: es) ds) (h : rel ds o) (ho : ∀ d, o = .ok d → O (.d d) w) (hx : ∀ c, o = .ex c → Ox c w)
    (hg : Gl X x := by rfl) (hdb : (x == ("__debug__" : Str)) = false := by decide)
    (he : starEach (e :: es) X.env = (false, eval e X.env) :: starEach es X.env := by rfl) (hpl : (backTo pos (starEach es X.env)).any (·.1) = false := by rfl) : EvS X CA Y ρ w (.Call (.Name x p) (e :: es) [] pos) O Ox := fun F L R H σ g i kk Q Wx tk q qx => by
  obtain ⟨f, fd, ps, fn, hm, hk, hb⟩ := fn.ex
  refine toE (pe_callS fn hr hg hm hk hb (fun τ => passAt tk τ) (pa_w _) hdb he hpl) (ha F L R H σ g i kk _ fun vs F1 R1 H1 s1 i1 k1 r1 => ?_)
  refine ⟨F1, un L R1, k1.join, ds, o, r1, h, ?_⟩
  cases o with
  | ok d => exact fun v F2 s2 r2 _ H2 k2 => q (.d d) w v F2 R1 H2 (ho d rfl) (s1.trans s2) (Y.mono s2 i1) r2 rfl (k2.part k1.lr)
  | ex c => exact fun F2 s2 _ H2 k2 => qx c w F2 R1 H2 (hx c rfl) (s1.trans s2) (Y.mono s2 i1) (k2.part k1.lr)
end
end G
end

section
set_option Elab.async false
set_option linter.all false
set_option maxRecDepth 100000
set_option maxHeartbeats 4000000
/-! ### things that are handed on by their very place: a list of the rest (the town), the script -/
namespace G
open PySem PySem.Spec PyProof.Rows L2
theorem same_sql {K : PySem.W.Frag} {F F' : Hp} {a : Addr} {xs : List V} (s : Same F F') (h : SqL K F a xs) : SqL K F' a xs := s.seq h
section
variable {X : Cx} {CA : Str → Addr} {Y : Wd} {ρ : Rho} {w : Y.W} {a b e : Expr} {es : List Expr} {pos p : Pos} {O : Sv → Y.W → Prop} {OT : Bool → Y.W → Prop} {Ox : Str → Y.W → Prop} {OS : Out Y.W}
/-- if xs: .. of a list that stands still -/
theorem est_truthL (i : Nat) {x : Str} {sa : Addr} {xs : List V} (hI : ∀ F R, Y.I w F R → SqL X.K F sa xs) (o : OT (!xs.isEmpty) w) (h : ρ[i]? = some (some (.raw (.ref sa))) := by rfl) (hN : X.N[i]? = some x := by rfl) (hv : Vis X.env.scope x := by first | exact Or.inl rfl | exact Or.inr (Or.inl rfl) | exact Or.inr (Or.inr rfl)) (hd : (x == ("__debug__" : Str)) = false := by decide)
    (hcd : (x == ("__classdict__" : Str)) = false := by decide) (he : ∀ whole, isTrue (.Name x pos) X.env whole = (do let v ← whole; standAt (Expr.Name x pos).pos; holding [v] (truthy v)) := by intro _; rfl) : EvST X CA Y ρ w (.Name x pos) OT Ox := fun F L R H σ g ii k Q Wx tk q qx => by
  obtain ⟨v', h1, h2⟩ := g.at_ i _ h
  cases h2
  refine toT (pt_truth (pe_var hN hv hd hcd) he) ⟨_, h1, !xs.isEmpty, ?_, q _ w F R H o (Same.refl F) ii k⟩
  exact .inl ⟨xs, same_sql k.f (hI F R ii), rfl⟩
/-- len(xs) -/
theorem es_lenRaw (i : Nat) {x : Str} {px : Pos} {sa : Addr} {xs : List V} (hm : X.mg "len" = none) (hI : ∀ F L R H, Y.I w F R → Ok F L R H → SqL X.K H sa xs) (o : O (.d (.int xs.length)) w) (h : ρ[i]? = some (some (.raw (.ref sa))) := by rfl) (hN : X.N[i]? = some x := by rfl) (hv : Vis X.env.scope x := by first | exact Or.inl rfl | exact Or.inr (Or.inl rfl) | exact Or.inr (Or.inr rfl)) (hd : (x == ("__debug__" : Str)) = false := by decide)
    (hcd : (x == ("__classdict__" : Str)) = false := by decide) (hg : Gl X "len" := by rfl) : EvS X CA Y ρ w (.Call (.Name "len" p) [.Name x px] [] pos) O Ox := fun F L R H σ g ii k Q Wx tk q qx => by
  obtain ⟨v', h1, h2⟩ := g.at_ i _ h
  cases h2
  exact toE (pe_callB call_len_seq hg hm PySem.boot_len (pa_cons (pe_var hN hv hd hcd) pa_nil)) ⟨_, h1, _, _, rfl, .inl (hI F L R H ii k), q (.d (.int xs.length)) w _ F R H o (Same.refl F) ii (.int _) rfl k⟩
/-- xs[j] of a list that stands still -/
theorem es_ixRaw (i : Nat) {x : Str} {px : Pos} {sa : Addr} {xs : List V} (hI : ∀ F R, Y.I w F R → SqL X.K F sa xs) (hb : EvS X CA Y ρ w b (fun sv w' => w' = w ∧ ∃ j d, sv = .d (.int j) ∧ atI xs j = some (.int d) ∧ O (.d (.int d)) w) Ox) (h : ρ[i]? = some (some (.raw (.ref sa))) := by rfl) (hN : X.N[i]? = some x := by rfl)
    (hv : Vis X.env.scope x := by first | exact Or.inl rfl | exact Or.inr (Or.inl rfl) | exact Or.inr (Or.inr rfl)) (hd : (x == ("__debug__" : Str)) = false := by decide)
    (hcd : (x == ("__classdict__" : Str)) = false := by decide) (hs : PlainIx b := by exact fun _ _ => rfl) : EvS X CA Y ρ w (.Subscript (.Name x px) b pos) O Ox := fun F L R H σ g ii k Q Wx tk q qx => by
  obtain ⟨v', h1, h2⟩ := g.at_ i _ h
  cases h2
  refine toE (pe_ix ix_list (pe_var hN hv hd hcd) (pe_w b) hs) ⟨_, h1, hb F L R H σ g ii k _ Wx tk (fun sv w' v F' R' H' o s' i' r' n' k' => ?_) qx⟩
  obtain ⟨ew, j, d, e1, hat, o⟩ := o
  subst ew e1
  cases r'
  exact ⟨sa, xs, j, .int d, rfl, rfl, same_sql k'.f (hI F' R' i'), hat, q (.d (.int d)) _ _ F' R' H' o s' i' (.int _) rfl k'⟩
/-- xs.append(e), xs a list of the rest -/
theorem s_appR (i : Nat) {x : Str} {px apos : Pos} {ta : Addr} (h : EvS X CA Y ρ w e (fun sv w' => ∃ d, sv = .d d ∧ ∀ F L R v, Y.I w' F R → RpS F L v sv → ∃ xs w2, R ta = some (.lst xs) ∧ xs.length < sizeLine ∧ Y.I w2 F (upd R ta (.lst (xs ++ [v]))) ∧ OS.nx ρ w2) (fun c w' => OS.ex c ρ w'))
    (hi : ρ[i]? = some (some (.raw (.ref ta))) := by rfl)
    (hE : ∀ (to te : TE), PE X (.Name x px) to → PE X e te → PE X (.Call (.Attribute (.Name x px) "append" apos) [e] [] p) (tBM X.K "list" rAppend to (tCons te tNil)) := by intro to te h1 h2; exact pe_bm PySem.F.plainAttrs_list PySem.F.slot_list_append PySem.F.type_list_append mt_append h1 (pa_cons h2 pa_nil))
    (hN : X.N[i]? = some x := by rfl) (hv : Vis X.env.scope x := by first | exact Or.inl rfl | exact Or.inr (Or.inl rfl) | exact Or.inr (Or.inr rfl)) (hd : (x == ("__debug__" : Str)) = false := by decide) (hcd : (x == ("__classdict__" : Str)) = false := by decide)
    (hs : swapsWith (.Call (.Attribute (.Name x px) "append" apos) [e] [] p) none pos.line X.env = pure false := by rfl) (hT : ∀ F L R H, Y.I w F R → Ok F L R H → ∃ xs, R ta = some (.lst xs)) : S1 X CA Y ρ w (.Expr (.Call (.Attribute (.Name x px) "append" apos) [e] [] p) pos) OS := fun F L R H σ g ii k D Wx tk m => by
  obtain ⟨v, h1, h2⟩ := g.at_ i _ hi
  cases h2
  obtain ⟨xs0, hx0⟩ := hT F L R H ii k
  refine toS (ps_expr (hE _ _ (pe_var hN hv hd hcd) (pe_w e)) hs) ⟨_, h1, .inl ⟨rfl, xs0, SqL.of (k.r _ _ hx0)⟩, h F L R H σ g ii k _ Wx tk (fun sv w' v F' R' H' o s' i' r' n' k' => ?_) (fun c w' F' R' H' o s' i' k' => m.ex c ρ w' F' L R' H' σ o s' i' (g.mono s') k')⟩
  obtain ⟨d, e1, o⟩ := o
  subst e1
  obtain ⟨xs, w2, hx, hl, i2, o2⟩ := o F' L R' v i' r'
  exact ⟨ta, xs, v, rfl, rfl, k'.r _ _ hx, hl, m.nx ρ w2 F' L _ _ σ o2 s' i2 (g.mono s') (k'.setR hx)⟩
end

/-! ### draws -/
def zeros (n : Nat) : HO := .lst (List.replicate n (.int 0))
theorem zeros_succ (n : Nat) : HO.lst (List.replicate n (V.int 0) ++ [.int 0]) = zeros (n + 1) := by
  unfold zeros
  rw [List.replicate_succ']
/-- a state in which the script stands at sa and the town at ta, n long -/
structure HasTown (K : PySem.W.Frag) (Y : Wd) (sa ta : Addr) (ns : List Int) (get : Y.W → Nat) (set : Y.W → Nat → Y.W) : Prop where
  scr : ∀ {w F R}, Y.I w F R → SqL K F sa (ns.map V.int)
  town : ∀ {w F R}, Y.I w F R → R ta = some (zeros (get w))
  step : ∀ {w F R} (n : Nat), Y.I w F R → Y.I (set w n) F (upd R ta (zeros n))
def TownW (K : PySem.W.Frag) (sa ta : Addr) (ns : List Int) (R0 : Hp) : Wd := ⟨Nat, fun n F R => R = upd R0 ta (zeros n) ∧ SqL K F sa (ns.map V.int), fun s h => ⟨h.1, same_sql s h.2⟩⟩
theorem townW_has {K : PySem.W.Frag} {sa ta : Addr} {ns : List Int} {R0 : Hp} : HasTown K (TownW K sa ta ns R0) sa ta ns (fun n => n) (fun _ n => n) where
  scr := fun h => h.2
  town := fun {w F R} h => by
    rw [h.1]
    exact upd_same
  step := fun {w F R} n h => ⟨by rw [h.1, upd_upd], h.2⟩
/-- a def that draws: it needs n + c ≤ a million, the town grows by at most c; post: what comes -/
def pmT (K : PySem.W.Frag) (c : Nat) (pre : List PyData → Prop) (post : List PyData → PyData → Prop) : Pm := fun vs F M q e => ∃ (sa ta : Addr) (ns : List Int) (n : Nat) (ws : List V) (ds : List PyData), vs = .ref sa :: .ref ta :: ws ∧ RpA F ws ds ∧ SqL K F sa (ns.map V.int) ∧ M ta = some (zeros n) ∧ n + c ≤ 1000000 ∧ pre ds ∧
  ∀ v F' d n', Same F F' → post ds d → Rp F' v d → n ≤ n' → n' ≤ n + c → q v F' (upd M ta (zeros n'))
theorem pmT_mono {K : PySem.W.Frag} {c : Nat} {pre : List PyData → Prop} {post : List PyData → PyData → Prop} : ∀ vs F M q q' e e', pmT K c pre post vs F M q e → (∀ v F' M', q v F' M' → q' v F' M') → (∀ c F' M', e c F' M' → e' c F' M') → pmT K c pre post vs F M q' e' := by
  rintro vs F M q q' e e' ⟨sa, ta, ns, n, ws, ds, h1, h2, h3, h4, h5, h6, h7⟩ hq _
  exact ⟨sa, ta, ns, n, ws, ds, h1, h2, h3, h4, h5, h6, fun v F' d n' a1 a2 a3 a4 a5 => hq _ _ _ (h7 v F' d n' a1 a2 a3 a4 a5)⟩
theorem un_upd {L R : Hp} {a : Addr} {o : HO} (h : L a = none) : upd (un L R) a o = un L (upd R a o) := by
  funext z
  by_cases hz : z = a
  · subst hz
    rw [upd_same, un_r h, upd_same]
  · rw [upd_ne hz]
    cases e : L z with
    | none => rw [un_r e, un_r e, upd_ne hz]
    | some u => rw [un_l e, un_l e]
section
variable {X : Cx} {CA : Str → Addr} {Y : Wd} {ρ : Rho} {w : Y.W} {e : Expr} {es : List Expr} {pos p : Pos} {O : Sv → Y.W → Prop} {Ox : Str → Y.W → Prop}
/-- a call of such a def -/
theorem es_town {sa ta : Addr} {ns : List Int} {get : Y.W → Nat} {set : Y.W → Nat → Y.W} (HT : HasTown X.K Y sa ta ns get set) {k c : Nat} {x : Str} {pre : List PyData → Prop} {post : List PyData → PyData → Prop} (fn : FnX X k x (lift CA (pmT X.K c pre post))) (hr : Room k X.A)
    (h : EvSA X CA Y ρ w (e :: es) (fun svs w1 => ∃ ds, svs = .raw (.ref sa) :: .raw (.ref ta) :: ds.map Sv.d ∧ get w1 + c ≤ 1000000 ∧ pre ds ∧ ∀ d n', post ds d → get w1 ≤ n' → n' ≤ get w1 + c → O (.d d) (set w1 n')) Ox)
    (hg : Gl X x := by rfl) (hdb : (x == ("__debug__" : Str)) = false := by decide)
    (he : starEach (e :: es) X.env = (false, eval e X.env) :: starEach es X.env := by rfl) (hpl : (backTo pos (starEach es X.env)).any (·.1) = false := by rfl) : EvS X CA Y ρ w (.Call (.Name x p) (e :: es) [] pos) O Ox := by
  refine es_call fn hr (fun F L R H σ g i kk Q Wx tk q qx => h F L R H σ g i kk Q Wx tk (fun svs w1 vs F' R' H' o => q svs w1 vs F' R' H' ?_) qx) pmT_mono hg hdb he hpl
  obtain ⟨ds, e1, hn, hp, o⟩ := o
  subst e1
  intro F1 L1 R1 vs1 i1 dj1 dj2 r1
  cases r1 with
  | cons r1 r2 =>
    cases r2 with
    | cons r2 r3 =>
      obtain ⟨r1, _⟩ := r1
      obtain ⟨r2, _⟩ := r2
      cases r1
      cases r2
      have hT := HT.town i1
      have hL : L1 ta = none := none_l dj2 hT
      refine ⟨sa, ta, ns, get w1, _, ds, rfl, rpA_of r3, HT.scr i1, by rw [un_r hL]; exact hT, hn, hp, fun v F2 d n' s2 po r2 h1 h2 s2' => ?_⟩
      refine ⟨.d d, set w1 n', upd R1 ta (zeros n'), o d n' po h1 h2, un_upd hL, fun a => ?_, HT.step n' (Y.mono s2 i1), r2, rfl⟩
      by_cases ha : a = ta
      · subst ha
        exact .inl hL
      · rw [upd_ne ha]
        exact dj2 a
/-- .. its first two arguments the script and the town by their names -/
theorem esa_town {sa ta : Addr} {s t : Str} {ps pt : Pos} {OA : List Sv → Y.W → Prop} (i j : Nat) (h : EvSA X CA Y ρ w es (fun svs w1 => OA (.raw (.ref sa) :: .raw (.ref ta) :: svs) w1) Ox) (hi : ρ[i]? = some (some (.raw (.ref sa))) := by rfl) (hj : ρ[j]? = some (some (.raw (.ref ta))) := by rfl) (hN : X.N[i]? = some s := by rfl) (hN' : X.N[j]? = some t := by rfl)
    (hv : Vis X.env.scope s := by first | exact Or.inl rfl | exact Or.inr (Or.inl rfl) | exact Or.inr (Or.inr rfl)) (hv' : Vis X.env.scope t := by first | exact Or.inl rfl | exact Or.inr (Or.inl rfl) | exact Or.inr (Or.inr rfl)) (hd : (s == ("__debug__" : Str)) = false := by decide) (hd' : (t == ("__debug__" : Str)) = false := by decide)
    (hcd : (s == ("__classdict__" : Str)) = false := by decide) (hcd' : (t == ("__classdict__" : Str)) = false := by decide)
    (hs : starEach (.Name s ps :: .Name t pt :: es) X.env = (false, eval (.Name s ps) X.env) :: starEach (.Name t pt :: es) X.env := by rfl) (hs' : starEach (.Name t pt :: es) X.env = (false, eval (.Name t pt) X.env) :: starEach es X.env := by rfl) : EvSA X CA Y ρ w (.Name s ps :: .Name t pt :: es) OA Ox :=
  esa_cons (es_raw i (esa_cons (es_raw j h hj hN' hv' hd' hcd') hs') hi hN hv hd hcd) hs
theorem rpA_to {F L : Hp} : ∀ {vs : List V} {ds : List PyData}, RpA F vs ds → Paired (fun v sv => RpS F L v sv ∧ isOwn sv = false) vs (ds.map Sv.d)
  | _, _, .nil => .nil
  | _, _, .cons h r => .cons ⟨h, rfl⟩ (rpA_to r)
theorem esa_data {OA : List Sv → Y.W → Prop} {ds : List PyData} (h : EvA X (Y.om w) ρ es ds) (o : OA (ds.map Sv.d) w) : EvSA X CA Y ρ w es OA Ox := fun F L R H σ g i k Q Wx tk q qx => h F L R H σ g i k Q fun vs F' R' H' s' i' k' r' => q (ds.map Sv.d) w vs F' R' H' o s' i' (rpA_to r') k'
end
end G
namespace G
open PySem PySem.Spec PyProof.Rows L2
/-! ### the start of a def whose arguments are handed on by place or as data -/
def startS (n : Nat) (svs : List Sv) : Rho := svs.map some ++ List.replicate (n - svs.length) none
theorem paired_len {α β : Type} {G : α → β → Prop} : ∀ {l : List α} {l' : List β}, Paired G l l' → l.length = l'.length
  | _, _, .nil => rfl
  | _, _, .cons _ r => by rw [List.length_cons, List.length_cons, paired_len r]
theorem paired_at {α β : Type} {G : α → β → Prop} : ∀ {l : List α} {l' : List β} {i : Nat} {b : β}, Paired G l l' → l'[i]? = some b → ∃ a, l[i]? = some a ∧ G a b
  | _, _, _, _, .nil, e => by simp at e
  | _, _, 0, _, .cons h r, e => by
    simp only [List.getElem?_cons_zero, Option.some.injEq] at e
    subst e
    exact ⟨_, rfl, h⟩
  | _, _, i + 1, _, .cons h r, e => by
    obtain ⟨v, h1, h2⟩ := paired_at (i := i) r (by simpa using e)
    exact ⟨v, by simpa using h1, h2⟩
theorem sg_start {F : Hp} {N : List Str} {vs : List V} {svs : List Sv} (h : Paired (fun v sv => RpS F no v sv ∧ isOwn sv = false) vs svs) : Sg F no (start N vs) (startS N.length svs) := by
  have hl := paired_len h
  have key : ∀ (i : Nat) (sv : Sv), (startS N.length svs)[i]? = some (some sv) → ∃ v, (start N vs)[i]? = some (some v) ∧ RpS F no v sv ∧ isOwn sv = false := fun i sv e => by
    unfold startS at e
    by_cases hi : i < svs.length
    · rw [List.getElem?_append_left (by simpa using hi), List.getElem?_map] at e
      unfold L2.start
      rw [List.getElem?_append_left (by rw [List.length_map, hl]; exact hi), List.getElem?_map]
      cases q : svs[i]? with
      | none =>
        rw [q] at e
        cases e
      | some d =>
        rw [q] at e
        cases e
        obtain ⟨v, h1, h2⟩ := paired_at h q
        exact ⟨v, by rw [h1]; rfl, h2⟩
    · rw [List.getElem?_append_right (by simpa using hi), List.getElem?_replicate] at e
      split at e <;> cases e
  refine ⟨fun i sv e => ?_, fun i j ds es p e1 _ _ _ => ?_, by simp [L2.start, startS, hl]⟩
  · obtain ⟨v, h1, h2, _⟩ := key i sv e
    exact ⟨v, h1, h2⟩
  · obtain ⟨v, _, _, h3⟩ := key i _ e1
    cases h3
def outS {W : Type} (nx : W → Prop) (rt : Sv → W → Prop) (ex : Str → W → Prop) : Out W := ⟨fun _ w => nx w, rt, fun c _ w => ex c w, fun _ _ => False, fun _ _ => False⟩
section
variable {P : Program} {w : World} {K : PySem.W.Frag} {mg : Str → Option Value} {base : Heap} {CA : Str → Addr}
/-- a def that draws -/
theorem fn_town {x qual : Str} {params : Arguments} {body : List Stmt} {scope : Scope} {dvs : List V} {kws : List (Str × V)} {f : Addr} {fd : FuncData} {N ps : List Str} {k c : Nat} {pre : List PyData → Prop} {post : List PyData → PyData → Prop} (Fd : FunD K x qual params body scope dvs kws f fd) (S : FnScope N ps scope) (len : ∀ ds, pre ds → ds.length + 2 = ps.length)
    (hbody : ∀ (cdv : Value) (A : Around) (outer : List Env) (s : Shared) (H : Hp) (E : XK) (R0 : Hp) (sa ta : Addr) (ns : List Int) (n : Nat) (ds : List PyData), Room k (A.deeper (envOfC qual scope s.heap.objs.size f cdv)) → pre ds → n + c ≤ 1000000 →
      SB (cxOf (L2.CX P w) P w K mg base N qual scope f cdv A outer s H E) CA (TownW K sa ta ns R0) (startS N.length (.raw (.ref sa) :: .raw (.ref ta) :: ds.map Sv.d)) n body (outS (fun _ => False) (fun sv (n' : Nat) => ∃ d, sv = .d d ∧ post ds d ∧ n ≤ n' ∧ n' ≤ n + c) (fun _ _ => False))) :
    FnOk P w K mg base (L2.CX P w) (k + 1) f fd ps (lift CA (pmT K c pre post)) := by
  refine fn_any Fd S (fun vs F M q e h => ?_) (fun cdv A outer s H E hr vs F M q e h => ?_)
  · obtain ⟨sa, ta, ns, n, ws, ds, rfl, r, _, _, _, h1, _⟩ := h
    rw [← len ds h1, List.length_cons, List.length_cons, r.length]
  · obtain ⟨sa, ta, ns, n, ws, ds, rfl, r, hS, hT, hn, h1, hq⟩ := h
    have eM : upd M ta (zeros n) = M := by
      funext z
      by_cases hz : z = ta
      · subst hz
        rw [upd_same, hT]
      · rw [upd_ne hz]
    refine ⟨TownW K sa ta ns M, n, _, _, sg_start (svs := .raw (.ref sa) :: .raw (.ref ta) :: ds.map Sv.d) (.cons ⟨rfl, rfl⟩ (.cons ⟨rfl, rfl⟩ (rpA_to r))), ⟨eM.symm, hS⟩, hbody cdv A outer s H E M sa ta ns n ds hr h1 hn, ?_, ?_, ?_, ?_, ?_⟩
    · exact fun _ _ _ _ o => o.elim
    · rintro sv n' v F' L' R' ⟨d, rfl, po, h2, h3⟩ s' i' r' _
      have e : R' = upd M ta (zeros n') := i'.1
      rw [e]
      exact hq v F' d n' s' po r' h2 h3
    · exact fun _ _ _ _ _ o => o.elim
    · exact fun _ _ o => o
    · exact fun _ _ o => o
end
end G
namespace G
open PySem PySem.Spec PyProof.Rows L2
section
variable {X : Cx} {Ω : Om} {ρ : Rho} {a b : Expr} {tg : Expr} {pos p : Pos}
/-- range(n, m), natural numbers -/
theorem ei_rangeAB {n m : Nat} (hm : X.mg "range" = none) (ha : Ev X Ω ρ a (.int (n : Int))) (hb : Ev X Ω ρ b (.int (m : Int))) (h1 : n ≤ 1000000) (h2 : m ≤ 1000000) (hg : Gl X "range" := by rfl)
    (hs : starEach [a, b] X.env = [(false, eval a X.env), (false, eval b X.env)] := by rfl) (hs2 : starEach [b] X.env = [(false, eval b X.env)] := by rfl) :
    EvI X Ω ρ tg (.Call (.Name "range" p) [a, b] [] pos) ((List.range (m - n)).map fun i : Nat => PyData.int ((n + i : Nat) : Int)) := by
  have h := ei_range2 (tg := tg) (p := p) (pos := pos) hm ha hb (by omega) (by omega) (by omega) (by omega) hg hs hs2
  have e : ((m : Int) - (n : Int)).toNat = m - n := by omega
  rw [e] at h
  unfold upFrom at h
  rw [List.map_map] at h
  have e2 : (PyData.int ∘ fun i : Nat => (n : Int) + (i : Int)) = fun i : Nat => PyData.int ((n + i : Nat) : Int) := by
    funext i
    show PyData.int _ = PyData.int _
    congr 1
  rw [e2] at h
  exact h
/-- the i-th of range(n) is i -/
theorem range_at {n i x : Nat} (h : (List.range n)[i]? = some x) : x = i ∧ i < n := by
  obtain ⟨h1, h2⟩ := List.getElem?_eq_some_iff.mp h
  rw [List.length_range] at h1
  exact ⟨by simpa using h2.symm, h1⟩
end
/-- least and greatest of a list -/
theorem has_min : ∀ {l : List Nat}, l ≠ [] → ∃ z ∈ l, ∀ y ∈ l, z ≤ y
  | [a], _ => ⟨a, List.mem_cons_self, fun y hy => by simp at hy; omega⟩
  | a :: b :: l, _ => by
    obtain ⟨z, h1, h2⟩ := has_min (l := b :: l) (by simp)
    by_cases h : a ≤ z
    · exact ⟨a, List.mem_cons_self, fun y hy => by
        rcases List.mem_cons.mp hy with rfl | hy
        · exact Nat.le_refl _
        · exact Nat.le_trans h (h2 y hy)⟩
    · exact ⟨z, List.mem_cons_of_mem _ h1, fun y hy => by
        rcases List.mem_cons.mp hy with rfl | hy
        · omega
        · exact h2 y hy⟩
theorem has_max : ∀ {l : List Nat}, l ≠ [] → ∃ z ∈ l, ∀ y ∈ l, y ≤ z
  | [a], _ => ⟨a, List.mem_cons_self, fun y hy => by simp at hy; omega⟩
  | a :: b :: l, _ => by
    obtain ⟨z, h1, h2⟩ := has_max (l := b :: l) (by simp)
    by_cases h : z ≤ a
    · exact ⟨a, List.mem_cons_self, fun y hy => by
        rcases List.mem_cons.mp hy with rfl | hy
        · exact Nat.le_refl _
        · exact Nat.le_trans (h2 y hy) h⟩
    · exact ⟨z, List.mem_cons_of_mem _ h1, fun y hy => by
        rcases List.mem_cons.mp hy with rfl | hy
        · omega
        · exact h2 y hy⟩
end G
namespace G
open PySem PySem.Spec PyProof.Rows L2
section
variable {X : Cx} {Ω : Om} {ρ : Rho} {a : Expr} {pos p : Pos} {d : PyData} {ds : List PyData}
/-- not in an own list -/
theorem et_notInO (i : Nat) {x : Str} (u : X.A.units + 65 < cLine) (ha : Ev X Ω ρ a d) (sa : SeqAt.shaped d = true) (sb : SeqAt.shaped (.list ds) = true) (h : ρ[i]? = some (some (.own ds)) := by rfl) (hN : X.N[i]? = some x := by rfl) (hv : Vis X.env.scope x := by first | exact Or.inl rfl | exact Or.inr (Or.inl rfl) | exact Or.inr (Or.inr rfl))
    (hd : (x == ("__debug__" : Str)) = false := by decide) (hcd : (x == ("__classdict__" : Str)) = false := by decide) : EvT X Ω ρ (.Compare a [.NotIn] [.Name x p] pos) (!ds.any fun z => PyData.eqv z d) := fun F L R H σ g om k Q q => by
  refine toT (pt_cmpR (op_notInD u) (pe_w a) (pe_var hN hv hd hcd) rfl) (ha F L R H σ g om k _ fun y F1 R1 H1 s1 o1 k1 r1 => ?_)
  obtain ⟨v, h1, p', vs, e1, h2, h3⟩ := g.at_ i _ h
  subst e1
  exact ⟨_, h1, d, ds, r1.dp k1.f, .lst (SqL.of (k1.l _ _ h2)) ((h3.mono s1).dp k1.f), sa, sb, _, rfl, q F1 R1 H1 s1 o1 k1⟩
end
end G
end

section
set_option Elab.async false
set_option linter.all false
set_option maxRecDepth 100000
set_option maxHeartbeats 4000000
/-! ### an exception that is caught and kept: tracked from the catch on -/
namespace G
open PySem PySem.Spec PyProof.Rows L2
theorem exH_ok {P : Program} {w : World} {H : Hp} {h : Heap} {a : Addr} {c : Value} {oe : Obj} {vs : Array Value} (e : h.get? a = some oe) (z : Zc c none oe) (d : oe.data = .fields vs) : ObjOk P w H h a (ExH c a) :=
  ⟨⟨oe, vs, e, z, d⟩, ⟨oe, e⟩, fun h1 h2 ⟨o, v, e1, z1, d1⟩ k => ⟨o, v, k o e1, z1, d1⟩⟩
section
variable {X : Cx} {pins : List (Addr × Obj)} {σ : L2.St} {H : Hp} {sI s' : Shared} {B : Heap} {a : Addr}
/-- on the ground again, the exception's own object tracked -/
theorem landedT {o : HO} (I : Inv X pins σ H sI) (nb : ∀ b o, sI.heap.get? b = some o → b ∉ frs X.stack → B.get? b = some o) (st : B.StaysIn s'.heap) (up : sI.heap.UpToSlots s'.heap) (os : s'.os = sI.os) (ag : AllBare s'.gens) (na : H a = none) (ns : sI.heap.get? a = none)
    (new : ObjOk X.prog X.w (upd H a o) s'.heap a o) : Inv X pins σ (upd H a o) s' := by
  have slot : ∀ b ∈ frs X.stack, ∀ u, sI.heap.get? b = some u → ∃ sl, s'.heap.get? b = some { u with slots := sl } := fun b hb u e => by
    obtain ⟨_, u', e', hd⟩ := I.stack.mem hb
    rw [e] at e'
    cases e'
    exact up b u e hd
  have far : ∀ b u, sI.heap.get? b = some u → b ≠ a := fun b u e z => by
    subst z
    rw [ns] at e
    cases e
  have u : Un (frs X.stack) [] H (upd H a o) sI.heap s'.heap := by
    refine ⟨fun b u e _ hb _ => st b u (nb b u e hb), fun b u e _ hb _ => slot b hb u e, fun b u e n _ => ?_, fun b u e _ => ?_, fun b xs e => ?_, fun b u xs e => ?_, fun b ps e => ⟨#[], ?_⟩⟩
    · rw [upd_ne (far b u e)]
      exact n
    · by_cases hb : b ∈ frs X.stack
      · obtain ⟨sl, q⟩ := slot b hb u e
        exact ⟨_, q⟩
      · exact ⟨u, st b u (nb b u e hb)⟩
    · rw [upd_ne (ne_of_none e na)]
      exact e
    · rw [upd_ne (ne_of_none e na)]
      exact e
    · rw [upd_ne (ne_of_none e na), e]
      simp
  have J := I.call (ch := []) (h' := s'.heap) (g' := s'.gens) (t' := s'.toks) (d' := s'.drawn) (H' := upd H a o) u (HOk.laidN (I.inGround nb) st na new) ag (fun _ z => nomatch z)
  obtain ⟨a1, a2, a3, a4, a5⟩ := s'
  have e5 : a5 = sI.os := os
  subst e5
  exact J
theorem toSuite (I : Inv X pins σ H sI) (a : Addr) : Inv (X.suite a (X.pn ++ pins)) [] σ H sI :=
  ⟨I.ok.suite _ _, I.os, I.bare, I.base, I.loc, I.cell, I.free, I.freeC, fun p hp => I.pin p (by rw [List.append_nil] at hp; exact hp), I.hok, I.len⟩
theorem ofSuite {pn' : List (Addr × Obj)} (I : Inv (X.suite a (X.pn ++ pins)) pn' σ H sI) (ok : X.Ok) : Inv X pins σ H sI :=
  ⟨ok, I.os, I.bare, I.base, I.loc, I.cell, I.free, I.freeC, fun p hp => I.pin p (List.mem_append_left _ hp), I.hok, I.len⟩
end
/-- what 'except x as n' wishes, the exception kept -/
def wHold (K : PySem.W.Frag) (c : Value) (i : Nat) (ts : Addr → TS) (Wout : WX) (D : Ends) : WX := fun cls d σ H => d = none ∧
  ∃ b, PySem.W.exmOne K cls c = some b ∧ (b = true → ∀ a, H a = none → ts a { nx := fun σ' H' => D.nx (σ'.set i none) H', rt := D.rt, bk := fun σ' H' => D.bk (σ'.set i none) H', ct := fun σ' H' => D.ct (σ'.set i none) H' } (σ.set i (some (.ref a))) (upd H a (ExH cls a))) ∧
    (b = false → Wout cls d σ H)
section
variable {X : Cx} {x n : Str} {c : Value} {i : Nat} {body suite : List Stmt} {b₀ : Stmt} {np pos pos' : Pos} {tb : WX → TS} {ts : Addr → TS} {Wout : WX}
theorem ps_try_hold (hs : X.stack = X.env :: X.outer) (hf : X.env.frame = some X.env.locals) (hN : X.N.Nodup) (hi : X.N[i]? = some n) (hln : X.env.kindOf n = some .local) (hc : Names X x c) (tk : Takes X Wout) (hex : X.ex = [])
    (hb : ∀ (W : WX) (pn : List (Addr × Obj)) (xe : Value → Shared → Prop), Takes (X.tr pn xe) W → PassesOwn (model X.prog X.w) X.A X.env xe → PSs (X.tr pn xe) body (tb W))
    (hsu : ∀ (a : Addr) (pn : List (Addr × Obj)), PSs (X.suite a pn) (b₀ :: suite) (ts a)) :
    PS X (.Try body [.ExceptHandler (some (.Name x np)) (some n) (b₀ :: suite) pos'] [] [] pos) (fun D σ H => tb (wHold X.K c i ts Wout D) D σ H) := by
  refine ⟨fun pins s σ H D I h => ?_⟩
  have ok := I.ok
  have frm : X.A.frames = some (X.env :: X.outer) := by rw [ok.frames, hs]
  have lcl : Loc X.env.scope n := .inl hln
  refine wpAny_Try_except (wpAny_mono ((hb (wHold X.K c i ts Wout D) (X.pn ++ pins) (fun e s₁ => wpAny (model X.prog X.w) X.A (noteFrame e X.env) (fun _ s₂ => wpAny (model X.prog X.w) X.A (setFlight e none) (fun _ s₃ =>
    wpAny (model X.prog X.w) X.A (handleBy e X.env [.ExceptHandler (some (.Name x np)) (some n) (b₀ :: suite) pos']) (SP X pins D) X.xe s₃) X.xe s₂) X.xe s₁) (fun u s' xx => ?_) PassesOwn.looking).run [] s σ H D (I.toTry _) h) (fun f s1 hsp => ?_) (fun e s1 he => he))
  · obtain ⟨a, B, sI, pins', σ', H', cls, d, rfl, J', nb, up, sky, na, os, ag, hdn, b, hb1, yes, no'⟩ := xx
    subst hdn
    have J : Inv X pins σ' H' sI := J'.ofTry ok
    show wpAny (model X.prog X.w) X.A (noteFrame (.ref a) X.env) _ _ _
    refine Sky.land Zc.steady frm hf (by rw [← hs]; exact sky) fun h3 fl3 up3 => ?_
    have J3 : Inv X pins σ' H' { s' with heap := h3 } := J.landed nb fl3.1 (up.trans up3) os ag
    obtain ⟨oe3, vs3, he3, hz3, hd3⟩ := fl3.there
    have nfr : a ∉ frs (X.env :: X.outer) := fun hm => by
      obtain ⟨_, o', e', hnf⟩ := fl3.2.2.1.mem hm
      rw [he3] at e'
      cases e'
      exact hnf _ hd3
    have nsI : sI.heap.get? a = none := by
      cases q : sI.heap.get? a with
      | none => rfl
      | some o =>
        have z := nb a o q (by rw [hs]; exact nfr)
        rw [fl3.2.1] at z
        cases z
    have T3 := toSuite J3 a
    refine wpAny_handleBy_cons (codeAny_handlers_test ?_) (by intro q; cases q)
    have LT : PySem.W.Looks (model X.prog X.w) h3 (typeOf (.ref a)) cls := fun A Q E s k q => wpAny_typeOf_ref (k _ _ he3) (by rw [hz3.1]; exact q)
    have LM := PySem.W.exm_one (M := model X.prog X.w) (J3.kIn) LT hb1
    have test : ∀ {Q : Value → Shared → Prop} {E : Value → Shared → Prop}, Q c { s' with heap := h3 } → wpAny (model X.prog X.w) (X.A.mark (some (.ref a))) (eval (.Name x np) X.env) Q E { s' with heap := h3 } := fun {Q E} q => by
      obtain ⟨hg, hdbg, hm | ⟨hm, hv, hnn⟩⟩ := hc
      · exact ld_glob (X := X.suite a (X.pn ++ pins)) T3 hg hm q hdbg
      · exact ld_blt (X := X.suite a (X.pn ++ pins)) T3 hg hm hv q hnn hdbg
    refine test (LM.here ?_)
    cases b with
    | true =>
      refine codeAny_handlers_suite_as (HandSPX.lands_againZ fl3 fun h4 fl4 up4 => ?_)
      obtain ⟨oe4, vs4, he4, hz4, hd4⟩ := fl4.there
      have J4 : Inv X pins σ' (upd H' a (ExH cls a)) { s' with heap := h4 } := landedT J nb fl4.1 ((up.trans up3).trans up4) os ag na nsI (exH_ok he4 hz4 hd4)
      refine store_ok (X := X.suite a (X.pn ++ pins)) (v := .ref a) (toSuite J4 a) hN hi lcl rfl (fun s5 S5 => ?_) (.inr hln)
      refine wpAny_mono ((hsu a (X.pn ++ pins)).run [] s5 _ _ _ S5 (yes rfl a na)) (fun f s6 hsp => ?_) (fun _ _ z => False.elim z)
      have fin : ∀ {σ6 : L2.St} {H6 : Hp} {Q : Shared → Prop}, Inv (X.suite a (X.pn ++ pins)) [] σ6 H6 s6 → (∀ s7, Inv X pins (σ6.set i none) H6 s7 → Q s7) →
          wpAny (model X.prog X.w) X.A (do bindName X.env n .none; unbindBehindTheSuite X.env n pos') (fun _ s7 => Q s7) X.xe s6 := fun {σ6 H6 Q} S6 hq => gone_ok (ofSuite S6 ok) hN hi hln hq
      cases f with
      | next =>
        obtain ⟨σ6, H6, S6, q6⟩ := hsp
        exact fin S6 fun s7 J7 => ⟨_, _, J7, q6⟩
      | brk =>
        obtain ⟨σ6, H6, S6, q6⟩ := hsp
        exact fin S6 fun s7 J7 => ⟨_, _, J7, q6⟩
      | cont =>
        obtain ⟨σ6, H6, S6, q6⟩ := hsp
        exact fin S6 fun s7 J7 => ⟨_, _, J7, q6⟩
      | ret u =>
        obtain ⟨v6, σ6, H6, S6, r6, q6⟩ := hsp
        exact fin S6 fun s7 J7 => ⟨_, _, _, J7, r6, q6⟩
    | false =>
      show wpAny _ X.A (handleBy (.ref a) X.env []) _ _ _
      refine wpAny_handleBy_nil ?_
      obtain ⟨k1, k2, k3, oe, vs, T, oT, ts', he, hz, hd, h1, hr⟩ := id fl3
      unfold PySem.passOn
      refine wpAny_bind (wpAny_field he hd h1 ?_)
      rw [if_neg (show ¬ ((Value.ref T == Value.none) = true) from by simp)]
      have fin : wpAny (model X.prog X.w) X.A (setFlight (.ref a) X.env.frame) (fun _ s4 => wpAny (model X.prog X.w) X.A (throw (.ref a) : Sem Flow) (SP X pins D) X.xe s4) X.xe { s' with heap := h3 } := by
        rw [hf]
        refine HandSPX.setFlight_upZ fl3 fun h4 hh4 up4 => wpAny_throw (tk _ _ ?_)
        exact ⟨a, B, sI, pins, σ', H', cls, none, rfl, J, nb, (up.trans up3).trans up4, .inr (.inr (by rw [hs]; exact hh4)), na, os, ag, no' rfl⟩
      first
        | exact wpAny_bind (wpAny_pure (wpAny_bind fin))
        | exact wpAny_bind fin
  · cases f with
    | next =>
      obtain ⟨σ', H', J', q⟩ := hsp
      exact wpAny_execs_nil ⟨σ', H', J'.ofTry ok, q⟩
    | brk =>
      obtain ⟨σ', H', J', q⟩ := hsp
      exact ⟨σ', H', J'.ofTry ok, q⟩
    | cont =>
      obtain ⟨σ', H', J', q⟩ := hsp
      exact ⟨σ', H', J'.ofTry ok, q⟩
    | ret u =>
      obtain ⟨v, σ', H', J', r, q⟩ := hsp
      exact ⟨v, σ', H', J'.ofTry ok, r, q⟩
end
/-! isinstance of a kept exception -/
def rIsH (K : PySem.W.Frag) (D : Addr) : List V → Hp → VK → Prop := fun xs H Q => ∃ (a : Addr) (c : V) (cv : Value) (b : Bool), xs = [.ref a, c] ∧ H a = some (ExH (.ref D) a) ∧ (∀ u, RelV c u → u = cv) ∧ PySem.W.kitOne K (.ref D) cv = some b ∧ Q (.bl b) H
theorem call_isH {X : Cx} {D : Addr} (C : ExcC X.K D) : CallR X (.builtin "isinstance") (rIsH X.K D) := by
  intro pins s σ H xs us Q I r h
  obtain ⟨a, c, cv, b, rfl, ha, hcv, e, q⟩ := h
  cases r with
  | cons rx rr =>
    cases rr with
    | cons rt rr =>
      cases rr
      cases rx
      have ec := hcv _ rt
      subst ec
      obtain ⟨⟨oe, vs, hget, hz, hv⟩, _⟩ := I.hok a _ ha
      have J : PySem.W.InstAt s.heap a oe D none := by
        obtain ⟨oc, od, oda, osl⟩ := oe
        obtain ⟨h1, h2⟩ := hz
        dsimp only at h1 h2 hv
        subst h1 h2 hv
        exact ⟨hget, rfl, rfl, trivial⟩
      exact PySem.W.kia_one (PySem.W.handS_kitx_exc C.hg C.hk C.hs C.hd C.ha C.hn C.ht C.hm) I.kIn J e (fun z => nomatch z) fun tk => ⟨.bl b, H, I.kept (t' := tk) fun _ _ z => z, rfl, q⟩
/-! the data's view: try .. except BagError as e: held = e -/
section
variable {X : Cx} {CA : Str → Addr} {Y : Wd} {ρ : Rho} {w : Y.W} {O : Out Y.W} {OO : Sv → Y.W → Prop} {Ox : Str → Y.W → Prop} {pos p np pos' : Pos}
theorem es_exc (i : Nat) {x : Str} {C : Addr} (o : OO (.exc C) w) (h : ρ[i]? = some (some (.exc C)) := by rfl) (hN : X.N[i]? = some x := by rfl) (hv : Vis X.env.scope x := by first | exact Or.inl rfl | exact Or.inr (Or.inl rfl) | exact Or.inr (Or.inr rfl)) (hd : (x == ("__debug__" : Str)) = false := by decide)
    (hcd : (x == ("__classdict__" : Str)) = false := by decide) : EvS X CA Y ρ w (.Name x pos) OO Ox := fun F L R H σ g ii k Q Wx tk q qx => by
  obtain ⟨v', h1, h2⟩ := g.at_ i _ h
  exact toE (pe_var hN hv hd hcd) ⟨_, h1, q (.exc C) w v' F R H o (Same.refl F) ii h2 rfl k⟩
/-- held is None: not of an exception -/
theorem et_excN (i : Nat) {x : Str} {C : Addr} {n : Nat} {p2 : Pos} (h : ρ[i]? = some (some (.exc C)) := by rfl) (hN : X.N[i]? = some x := by rfl) (hv : Vis X.env.scope x := by first | exact Or.inl rfl | exact Or.inr (Or.inl rfl) | exact Or.inr (Or.inr rfl)) (hd : (x == ("__debug__" : Str)) = false := by decide)
    (hcd : (x == ("__classdict__" : Str)) = false := by decide) : EvT X Ω ρ (.Compare (.Name x p) [.Is] [.Constant .none n p2] pos) false := fun F L R H σ g om k Q q => by
  obtain ⟨v', h1, a, e1, h2⟩ := g.at_ i _ h
  subst e1
  refine toT (pt_cmpR op_isN (pe_var hN hv hd hcd) pe_non (nomark _)) ⟨_, h1, rfl, false, ?_, q F R H (Same.refl F) om k⟩
  simp
/-- what an except suite is to reach: its name goes -/
def Out.inSuite {W : Type} (O : Out W) (i : Nat) : Out W := ⟨fun ρ2 w2 => O.nx (ρ2.set i none) w2, O.rt, fun _ _ _ => False, fun ρ2 w2 => O.bk (ρ2.set i none) w2, fun ρ2 w2 => O.ct (ρ2.set i none) w2⟩
theorem s_try (i : Nat) {x n : Str} {body suite : List Stmt} {b₀ : Stmt} {c : Value} (hN : X.N.Nodup) (hc : X.mg x = some c)
    (hb : ∀ (pn : List (Addr × Obj)) (xe : Value → Shared → Prop), PassesOwn (model X.prog X.w) X.A X.env xe → SB (X.tr pn xe) CA Y ρ w body
      { O with ex := fun cl ρ' w' => PySem.W.exmOne X.K (.ref (CA cl)) c = some true ∧ ∀ (a : Addr) (pn2 : List (Addr × Obj)), SB (X.suite a pn2) CA Y (ρ'.set i (some (.exc (CA cl)))) w' (b₀ :: suite) (O.inSuite i) })
    (hi : X.N[i]? = some n := by rfl) (hln : X.env.kindOf n = some .local := by rfl) (hg : Gl X x := by rfl) (hdb : (x == ("__debug__" : Str)) = false := by decide) (hs : X.stack = X.env :: X.outer := by rfl) (hf : X.env.frame = some X.env.locals := by rfl) (hex : X.ex = [] := by rfl) :
    S1 X CA Y ρ w (.Try body [.ExceptHandler (some (.Name x np)) (some n) (b₀ :: suite) pos'] [] [] pos) O := fun F L R H σ g ii k D Wx tk m => by
  refine toS (ps_try_hold (Wout := Wx) (tb := fun W D σ H => ∀ pn xe, Takes (X.tr pn xe) W → PassesOwn (model X.prog X.w) X.A X.env xe → wB (X.tr pn xe) body D σ H) (ts := fun a D σ H => ∀ pn, wB (X.suite a pn) (b₀ :: suite) D σ H) hs hf hN hi hln ⟨hg, hdb, .inl hc⟩ tk hex
    (fun W pn xe tk' hp => ⟨fun pins s σ H D I h => (h pn xe tk' hp).run pins s I⟩) (fun a pn => ⟨fun pins s σ H D I h => (h pn).run pins s I⟩)) ?_
  intro pn xe tk' hp
  refine hb pn xe hp F L R H σ g ii k D _ tk' ⟨m.nx, m.rt, ?_, m.bk, m.ct⟩
  rintro cl ρ' w' F' L' R' H' σ' ⟨hx, hsu⟩ s' i' g' k'
  refine ⟨rfl, true, hx, fun _ a ha pn2 => ?_, fun z => nomatch z⟩
  have sF : Same F' (upd F' a (ExH (.ref (CA cl)) a)) := same_new (k'.f.free ha)
  refine hsu a pn2 _ L' R' _ _ ((g'.mono sF).set i (sv := .exc (CA cl)) ⟨a, rfl, upd_same⟩ rfl) (Y.mono sF i') (k'.newF ha) _ _ takes0 ⟨?_, ?_, ?_, ?_, ?_⟩
  · exact fun ρ2 w2 F2 L2 R2 H2 σ2 o2 s2 i2 g2 k2 => m.nx _ w2 F2 L2 R2 H2 _ o2 ((s'.trans sF).trans s2) i2 (g2.drop i none) k2
  · exact fun sv w2 v F2 L2 R2 H2 o2 s2 => m.rt sv w2 v F2 L2 R2 H2 o2 ((s'.trans sF).trans s2)
  · exact fun _ _ _ _ _ _ _ _ o2 => o2.elim
  · exact fun ρ2 w2 F2 L2 R2 H2 σ2 o2 s2 i2 g2 k2 => m.bk _ w2 F2 L2 R2 H2 _ o2 ((s'.trans sF).trans s2) i2 (g2.drop i none) k2
  · exact fun ρ2 w2 F2 L2 R2 H2 σ2 o2 s2 i2 g2 k2 => m.ct _ w2 F2 L2 R2 H2 _ o2 ((s'.trans sF).trans s2) i2 (g2.drop i none) k2
/-- isinstance(held, C) -/
theorem ev_isH (i : Nat) {x y : Str} {C : Addr} {cv : Value} {px py : Pos} {b : Bool} (hm : X.mg "isinstance" = none) (E : ExcC X.K C) (hy : ∃ v : V, PE X (.Name y py) (tC v) ∧ ∀ u, RelV v u → u = cv) (hk : PySem.W.kitOne X.K (.ref C) cv = some b) (h : ρ[i]? = some (some (.exc C)) := by rfl) (hN : X.N[i]? = some x := by rfl)
    (hv : Vis X.env.scope x := by first | exact Or.inl rfl | exact Or.inr (Or.inl rfl) | exact Or.inr (Or.inr rfl)) (hd : (x == ("__debug__" : Str)) = false := by decide) (hcd : (x == ("__classdict__" : Str)) = false := by decide) (hg : Gl X "isinstance" := by rfl)
    (hs : starEach [.Name x px, .Name y py] X.env = (false, eval (.Name x px) X.env) :: starEach [.Name y py] X.env := by rfl) (hs2 : starEach [.Name y py] X.env = (false, eval (.Name y py) X.env) :: starEach [] X.env := by rfl) (hpl : (backTo pos (starEach [.Name y py] X.env)).any (·.1) = false := by rfl) :
    Ev X Ω ρ (.Call (.Name "isinstance" p) [.Name x px, .Name y py] [] pos) (.bool b) := fun F L R H σ g om k Q q => by
  obtain ⟨v', h1, a, e1, h2⟩ := g.at_ i _ h
  subst e1
  obtain ⟨v, hv', hu⟩ := hy
  exact toE (pe_callB (call_isH E) hg hm (by decide +kernel) (pa_cons (pe_var hN hv hd hcd) (pa_cons hv' pa_nil hs2) hs) (by decide) (by decide) hs hpl) ⟨_, h1, a, v, cv, b, rfl, k.f _ _ h2, hu, hk, q.here om k (.bl _)⟩
end
end G
end

section
set_option Elab.async false
set_option linter.all false
set_option maxRecDepth 100000
set_option maxHeartbeats 4000000
/-! ### count and index of booleans; an own list by +; an index that draws -/
namespace G
open PySem PySem.Spec PyProof.Rows L2
def isBl (k : Bool) : Value → Bool
  | .bool b => b == k
  | _ => false
theorem bls_of : ∀ {bs : List Bool} {us : List Value}, Vals (bs.map V.bl) us → us = bs.map Value.bool
  | [], _, .nil => rfl
  | b :: bs, _, .cons h r => by
    cases h
    rw [bls_of r]
    rfl
def rCntB (K : PySem.W.Frag) : V → List V → Hp → VK → Prop := fun x xs H Q => ∃ (p : Addr) (bs : List Bool) (k : Bool), x = .ref p ∧ xs = [.bl k] ∧ SqL K H p (bs.map V.bl) ∧ Q (.int (bs.count k : Nat)) H
theorem cnt_bl (k : Bool) : ∀ bs : List Bool, (bs.map Value.bool).countP (isBl k) = bs.count k
  | [] => rfl
  | b :: bs => by
    rw [List.map_cons, List.countP_cons, List.count_cons, cnt_bl k bs]
    rfl
theorem mt_bcount {X : Cx} : MtR X "list.count" (rCntB X.K) := by
  intro pins s σ H x xs v us Q I rx rxs h
  obtain ⟨p, ns, k, rfl, rfl, hs, q⟩ := h
  cases rx
  obtain ⟨u, rfl, ru⟩ := rxs.one
  cases ru
  obtain ⟨its, rv, ⟨⟨cls, dd, data, sl⟩, n, ho, hc, hdn, hd⟩, hlen⟩ := I.list hs
  simp only at hc hd
  subst hc hd
  have hi := bls_of rv
  refine call_meets PySem.F.slot_list_count ⟨_, ho, rfl⟩ PySem.F.entry_list_count (PySem.F.args_list_count_2 _ _)
    (SeqAt.list_countAt p its.toArray n dd sl (.bool k) (isBl k)) ⟨ho, fun y hy => ?_, ?_⟩
  · have hy : y ∈ its := by simpa using hy
    rw [hi] at hy
    obtain ⟨b, _, rfl⟩ := List.mem_map.mp hy
    exact SeqAt.EqAt.bool_bool b k
  · have ec : its.toArray.toList.countP (isBl k) = ns.count k := by
      rw [show its.toArray.toList = its from rfl, hi]
      exact cnt_bl k ns
    refine ⟨.int (ns.count k : Nat), H, I.tok _, ⟨s.toks, ?_⟩, q⟩
    show Value.int ((its.toArray.toList.countP (isBl k) : Nat) : Int) s.toks = Value.int ((ns.count k : Nat) : Int) s.toks
    rw [ec]
section
variable {X : Cx} {Ω : Om} {ρ : Rho} {a b : Expr} {pos apos : Pos} {d : PyData} {ds : List PyData}
theorem ev_countB {bs : List Bool} {k : Bool} (ha : Ev X Ω ρ a (.list (bs.map PyData.bool))) (hb : Ev X Ω ρ b (.bool k))
    (hE : ∀ (to te : TE), PE X a to → PE X b te → PE X (.Call (.Attribute a "count" apos) [b] [] pos) (tBM X.K "list" (rCntB X.K) to (tCons te tNil)) := by intro to te h1 h2; exact pe_bm PySem.F.plainAttrs_list PySem.F.slot_list_count PySem.F.type_list_count mt_bcount h1 (pa_cons h2 pa_nil)) :
    Ev X Ω ρ (.Call (.Attribute a "count" apos) [b] [] pos) (.int (bs.count k : Nat)) := fun F L R H σ g om kk Q q =>
  toE (hE _ _ (pe_w a) (pe_w b)) (ha F L R H σ g om kk _ fun x F1 R1 H1 s1 o1 k1 r1 => by
    cases r1 with
    | lst h1 h2 =>
      rw [RpA.bls h2] at h1
      refine ⟨.inl ⟨rfl, _, SqL.of (k1.f _ _ h1)⟩, hb F1 L R1 H1 σ (g.mono s1) o1 k1 _ fun y F2 R2 H2 s2 o2 k2 r2 => ?_⟩
      cases r2
      exact ⟨_, bs, k, rfl, rfl, SqL.of (k2.f _ _ (s2 _ _ h1)), q _ _ _ _ (s1.trans s2) o2 k2 (.int _)⟩)
theorem ev_index {j : Nat} {z : PyData} (u : X.A.units + 65 < cLine) (ha : Ev X Ω ρ a (.list ds)) (hb : Ev X Ω ρ b d) (sa : SeqAt.shaped (.list ds) = true) (sb : SeqAt.shaped d = true) (hj : ds[j]? = some z) (hz : PyData.eqv z d = true) (hno : ∀ (m : Nat) (z' : PyData), m < j → ds[m]? = some z' → PyData.eqv z' d = false)
    (hE : ∀ (to te : TE), PE X a to → PE X b te → PE X (.Call (.Attribute a "index" apos) [b] [] pos) (tBM X.K "list" (rIndexD X.K) to (tCons te tNil)) := by intro to te h1 h2; exact pe_bm PySem.F.plainAttrs_list PySem.F.slot_list_index PySem.F.type_list_index (mt_indexD (by assumption)) h1 (pa_cons h2 pa_nil)) :
    Ev X Ω ρ (.Call (.Attribute a "index" apos) [b] [] pos) (.int (j : Nat)) := fun F L R H σ g om kk Q q =>
  toE (hE _ _ (pe_w a) (pe_w b)) (ha F L R H σ g om kk _ fun x F1 R1 H1 s1 o1 k1 r1 => by
    cases r1 with
    | lst h1 h2 =>
      refine ⟨.inl ⟨rfl, _, SqL.of (k1.f _ _ h1)⟩, hb F1 L R1 H1 σ (g.mono s1) o1 k1 _ fun y F2 R2 H2 s2 o2 k2 r2 => ?_⟩
      exact ⟨_, y, d, ds, j, z, rfl, rfl, (Rp.lst (s2 _ _ h1) (h2.mono s2)).dp k2.f, r2.dp k2.f, sa, sb, hj, hz, hno, q _ _ _ _ (s1.trans s2) o2 k2 (.int _)⟩)
end
section
variable {X : Cx} {CA : Str → Addr} {Y : Wd} {ρ : Rho} {w : Y.W} {a b : Expr} {pos p p2 : Pos} {O : Sv → Y.W → Prop} {Ox : Str → Y.W → Prop} {OS : Out Y.W}
/-- x = a + b, two lists of data: an own list -/
theorem s_asgCat (i : Nat) {x : Str} {xs ys : List PyData} (hN : X.N.Nodup) (ha : Ev X (Y.om w) ρ a (.list xs)) (hb : Ev X (Y.om w) ρ b (.list ys)) (hl : xs.length + ys.length ≤ sizeLine) (o : OS.nx (ρ.set i (some (.own (xs ++ ys)))) w) (hi : X.N[i]? = some x := by rfl) (hx : Loc X.env.scope x := by first | exact Or.inl rfl | exact Or.inr rfl)
    (hs : swapsWith (.BinOp a .Add b p2) (some (.Name x p)) pos.line X.env = pure false := by rfl) (hf : X.fn x = true ∨ X.env.scope.names.lookup x = some .local := by first | exact .inl rfl | exact .inr rfl) : S1 X CA Y ρ w (.Assign [.Name x p] (.BinOp a .Add b p2) pos) OS := fun F L R H σ g ii k D Wx tk m =>
  toS (ps_set hN hi hx (pe_op op_cat (pe_w a) (pe_w b)) hs hf) (ha F L R H σ g ii k _ fun u F1 R1 H1 s1 i1 k1 r1 => hb F1 L R1 H1 σ (g.mono s1) i1 k1 _ fun v F2 R2 H2 s2 i2 k2 r2 => by
    cases r1 with
    | lst h1 q1 => cases r2 with
      | lst h2 q2 =>
        exact ⟨_, _, _, _, rfl, rfl, k2.f _ _ (s2 _ _ h1), k2.f _ _ h2, by rw [q1.length, q2.length]; exact hl, fun q hq => m.nx _ w F2 _ R2 _ _ o (s1.trans s2) i2 ((g.mono (s1.trans s2)).setOwn i (k2.l.free hq) (RpA.append q2 (q1.mono s2))) (k2.newL hq)⟩)
/-- xs[e], xs a list of data, e with a state -/
theorem es_ixL {ds : List PyData} (ha : Ev X (Y.om w) ρ a (.list ds)) (hb : EvS X CA Y ρ w b (fun sv w' => ∃ j d, sv = .d (.int j) ∧ atI ds j = some d ∧ O (.d d) w') Ox) (hs : PlainIx b := by exact fun _ _ => rfl) : EvS X CA Y ρ w (.Subscript a b pos) O Ox := fun F L R H σ g ii k Q Wx tk q qx =>
  toE (pe_ix ix_list (pe_w a) (pe_w b) hs) (es_two (a := a) (b := b) (O2 := fun x y w2 => x = .d (.list ds) ∧ ∃ j d, y = .d (.int j) ∧ atI ds j = some d ∧ O (.d d) w2) (Ev.s ha (hb.imp (fun sv w' h => ⟨rfl, h⟩) (fun _ _ h => h))) g ii k tk qx fun x y w2 u v F2 R2 H2 o2 s2 i2 r1 r2 n1 n2 k2 => by
    obtain ⟨e1, j, d, e2, hat, o⟩ := o2
    subst e1 e2
    exact od_ixL hat F2 L R2 H2 u v k2 r1 r2 Q fun z F3 H3 s3 k3 r3 => q (.d d) w2 z F3 R2 H3 o (s2.trans s3) (Y.mono s3 i2) r3 rfl k3)
end
end G
end

section
set_option Elab.async false
set_option linter.all false
set_option maxRecDepth 100000
set_option maxHeartbeats 4000000
/-! ### a law: the script, its town; longer ors -/
namespace G
open PySem PySem.Spec PyProof.Rows L2
section
variable {X : Cx} {Ω : Om} {ρ : Rho} {a b c d : Expr} {pos : Pos}
theorem et_or3 {v v' v'' : Bool} (h : EvT X Ω ρ a v) (h' : v = false → EvT X Ω ρ b v') (h'' : v = false → v' = false → EvT X Ω ρ c v'') : EvT X Ω ρ (.BoolOp .Or [a, b, c] pos) (v || (v' || v'')) := et_W (ew_or h fun z => ew_or (h' z) fun z' => ew_or1 (h'' z z'))
theorem et_or4 {v v' v'' v3 : Bool} (h : EvT X Ω ρ a v) (h' : v = false → EvT X Ω ρ b v') (h'' : v = false → v' = false → EvT X Ω ρ c v'') (h3 : v = false → v' = false → v'' = false → EvT X Ω ρ d v3) : EvT X Ω ρ (.BoolOp .Or [a, b, c, d] pos) (v || (v' || (v'' || v3))) := et_W (ew_or h fun z => ew_or (h' z) fun z' => ew_or (h'' z z') fun z'' => ew_or1 (h3 z z' z''))
theorem et_no2 (h : EvT X Ω ρ a false) (h' : EvT X Ω ρ b false) : EvT X Ω ρ (.BoolOp .Or [a, b] pos) false := et_or (v := false) (v' := false) h fun _ => h'
theorem et_no3 (h : EvT X Ω ρ a false) (h' : EvT X Ω ρ b false) (h'' : EvT X Ω ρ c false) : EvT X Ω ρ (.BoolOp .Or [a, b, c] pos) false := et_or3 (v := false) (v' := false) (v'' := false) h (fun _ => h') fun _ _ => h''
/-- a != b of what is the same -/
theorem et_same {da : PyData} (u : X.A.units + 64 < cLine) (ha : Ev X Ω ρ a da) (hb : Ev X Ω ρ b da) (sa : SeqAt.shaped da = true) (h : PyData.eqv da da = true) : EvT X Ω ρ (.Compare a [.NotEq] [b] pos) false := EvT.is (et_ne u ha hb sa sa) (by rw [h]; rfl)
end
/-- only the script is known -/
def AnyW (K : PySem.W.Frag) (sa : Addr) (ns : List Int) : Wd := ⟨Unit, fun _ F _ => SqL K F sa (ns.map V.int), fun s h => same_sql s h⟩
section
variable {X : Cx} {Ω : Om} {CA : Str → Addr} {ρ : Rho} {pos p p2 : Pos}
/-- town = [] -/
theorem sb_town (i : Nat) {x : Str} {sa : Addr} {ns : List Int} {rest : List Stmt} {O1 : Sv → Prop} (hN : X.N.Nodup) (h : ∀ R0 ta, SB X CA (TownW X.K sa ta ns R0) (ρ.set i (some (.raw (.ref ta)))) (0 : Nat) rest (outS (fun _ => False) (fun sv _ => O1 sv) (fun _ _ => False)))
    (hi : X.N[i]? = some x := by rfl) (hx : Loc X.env.scope x := by first | exact Or.inl rfl | exact Or.inr rfl)
    (hs : swapsWith (.List [] p2) (some (.Name x p)) pos.line X.env = pure false := by rfl) (hf : X.fn x = true ∨ X.env.scope.names.lookup x = some .local := by first | exact .inl rfl | exact .inr rfl) :
    SB X CA (AnyW X.K sa ns) ρ () (.Assign [.Name x p] (.List [] p2) pos :: rest) (outS (fun _ => False) (fun sv _ => O1 sv) (fun _ _ => False)) := fun F L R H σ g ii k D Wx tk m => by
  refine toB (pss_cons (ps_set hN hi hx (pe_lst pa_nil) hs hf) (pb_w rest)) ⟨Nat.zero_le _, fun q hq => ?_⟩
  refine h R q F L (upd R q (zeros 0)) _ _ (g.set i (sv := .raw (.ref q)) rfl rfl) ⟨rfl, ii⟩ (k.newR hq) D Wx tk ⟨?_, ?_, ?_, ?_, ?_⟩
  · exact fun _ _ _ _ _ _ _ o => o.elim
  · exact fun sv w' v F' L' R' H' o s' i' r' n' k' => m.rt sv () v F' L' R' H' o s' i'.2 r' n' k'
  · exact fun _ _ _ _ _ _ _ _ o => o.elim
  · exact fun _ _ _ _ _ _ _ o => o.elim
  · exact fun _ _ _ _ _ _ _ o => o.elim
end
/-- what a law promises: True -/
def pmLaw (K : PySem.W.Frag) : Pm := fun vs F M q e => ∃ (sa : Addr) (ns : List Int), vs = [.ref sa] ∧ SqL K F sa (ns.map V.int) ∧ ns.length ≤ 63 ∧ ∀ F' M', q (.bl true) F' M'
def trueS (sv : Sv) : Prop := sv = .d (.bool true)
section
variable {P : Program} {w : World} {K : PySem.W.Frag} {mg : Str → Option Value} {base : Heap} {CA : Str → Addr}
theorem fn_law {x qual : Str} {params : Arguments} {body : List Stmt} {scope : Scope} {dvs : List V} {kws : List (Str × V)} {f : Addr} {fd : FuncData} {N ps : List Str} {k : Nat} (Fd : FunD K x qual params body scope dvs kws f fd) (S : FnScope N ps scope) (len : ps.length = 1)
    (hbody : ∀ (cdv : Value) (A : Around) (outer : List Env) (s : Shared) (H : Hp) (E : XK) (sa : Addr) (ns : List Int), Room k (A.deeper (envOfC qual scope s.heap.objs.size f cdv)) → ns.length ≤ 63 →
      SB (cxOf (L2.CX P w) P w K mg base N qual scope f cdv A outer s H E) CA (AnyW K sa ns) (startS N.length [.raw (.ref sa)]) () body (outS (fun _ => False) (fun sv _ => trueS sv) (fun _ _ => False))) :
    FnOk P w K mg base (L2.CX P w) (k + 1) f fd ps (lift CA (pmLaw K)) := by
  refine fn_any Fd S (fun vs F M q e h => ?_) (fun cdv A outer s H E hr vs F M q e h => ?_)
  · obtain ⟨sa, ns, rfl, _⟩ := h
    rw [len]
    rfl
  · obtain ⟨sa, ns, rfl, hS, hl, hq⟩ := h
    refine ⟨AnyW K sa ns, (), _, _, sg_start (svs := [.raw (.ref sa)]) (.cons ⟨rfl, rfl⟩ .nil), hS, hbody cdv A outer s H E sa ns hr hl, ?_, ?_, ?_, ?_, ?_⟩
    · exact fun _ _ _ _ o => o.elim
    · rintro sv w' v F' L' R' o s' i' r' _
      have o : sv = .d (.bool true) := o
      subst o
      cases r'
      exact hq F' R'
    · exact fun _ _ _ _ _ o => o.elim
    · exact fun _ _ o => o
    · exact fun _ _ o => o
end
end G
end

section
set_option Elab.async false
set_option linter.all false
set_option maxRecDepth 100000
set_option maxHeartbeats 4000000
/-! ### the rest as a list of things -/
namespace G
open PySem PySem.Spec PyProof.Rows L2
/-- what is true of a region M of the rest, beside the data F -/
structure Thing where
  P : Hp → Hp → Prop
  mono : ∀ {F F' M M' : Hp}, Same F F' → Same M M' → P F M → P F' M'
def EmpT : Thing := ⟨fun _ _ => True, fun _ _ h => h⟩
def part (R : Hp) (c : Addr → Option Nat) (i : Nat) : Hp := fun a => if c a = some i then R a else none
theorem part_in {R : Hp} {c : Addr → Option Nat} {i : Nat} {a : Addr} (h : c a = some i) : part R c i a = R a := by
  unfold part
  rw [if_pos h]
theorem part_out {R : Hp} {c : Addr → Option Nat} {i : Nat} {a : Addr} (h : c a ≠ some i) : part R c i a = none := by
  unfold part
  rw [if_neg h]
theorem part_same {R : Hp} {c : Addr → Option Nat} {i : Nat} : Same (part R c i) R := fun a o e => by
  by_cases h : c a = some i
  · rw [part_in h] at e
    exact e
  · rw [part_out h] at e
    cases e
theorem part_some {R : Hp} {c : Addr → Option Nat} {i : Nat} {a : Addr} {o : HO} (e : part R c i a = some o) : c a = some i := by
  by_cases h : c a = some i
  · exact h
  · rw [part_out h] at e
    cases e
/-- the rest R: R0, and a part for each thing -/
def Sep (F R0 : Hp) (w : List Thing) (R : Hp) : Prop := ∃ c : Addr → Option Nat, (∀ a o, R0 a = some o → R a = some o ∧ c a = none) ∧ ∀ (i : Nat) (t : Thing), w[i]? = some t → t.P F (part R c i)
section
variable {F F' R0 R : Hp} {w : List Thing} {i j : Nat} {t u : Thing} {a : Addr} {o : HO}
theorem Sep.mono (s : Same F F') (h : Sep F R0 w R) : Sep F' R0 w R := by
  obtain ⟨c, h1, h2⟩ := h
  exact ⟨c, h1, fun i t e => t.mono s (Same.refl _) (h2 i t e)⟩
theorem Sep.get (h : Sep F R0 w R) (e : w[i]? = some t) : ∃ M, t.P F M ∧ Same M R := by
  obtain ⟨c, h1, h2⟩ := h
  exact ⟨_, h2 i t e, part_same⟩
theorem set_at {w : List Thing} {i j : Nat} {t u : Thing} (e : (w.set i t)[j]? = some u) : (i = j ∧ u = t) ∨ (i ≠ j ∧ w[j]? = some u) := by
  rw [List.getElem?_set] at e
  by_cases h : i = j
  · rw [if_pos h] at e
    split at e
    · exact .inl ⟨h, (Option.some.inj e).symm⟩
    · cases e
  · rw [if_neg h] at e
    exact .inr ⟨h, e⟩
/-- one object of a thing changes, or comes anew -/
theorem Sep.upd (h : Sep F R0 w R) (e : w[i]? = some t) : ∃ M, t.P F M ∧ Same M R ∧ ∀ F' a o u, Same F F' → (M a ≠ none ∨ R a = none) → u.P F' (upd M a o) → Sep F' R0 (w.set i u) (L2.upd R a o) := by
  obtain ⟨c, h1, h2⟩ := h
  refine ⟨_, h2 i t e, part_same, fun F' a o u sF ha hu => ?_⟩
  have h0 : R0 a = none := by
    cases q : R0 a with
    | none => rfl
    | some z =>
      obtain ⟨r1, r2⟩ := h1 a z q
      rcases ha with ha | ha
      · exact (ha (part_out (by rw [r2]; simp))).elim
      · rw [r1] at ha
        cases ha
  refine ⟨fun b => if b = a then some i else c b, fun b z hb => ?_, fun j v hj => ?_⟩
  · have : b ≠ a := fun q => by
      subst q
      rw [h0] at hb
      cases hb
    rw [upd_ne this]
    exact ⟨(h1 b z hb).1, (if_neg this).trans (h1 b z hb).2⟩
  · rcases set_at hj with ⟨rfl, rfl⟩ | ⟨hne, hj⟩
    · refine v.mono (Same.refl _) (fun b z hb => ?_) hu
      by_cases hba : b = a
      · subst hba
        rw [upd_same] at hb
        rw [part_in (by rw [if_pos rfl]), upd_same]
        exact hb
      · rw [upd_ne hba] at hb
        have hc := part_some hb
        rw [part_in hc] at hb
        rw [part_in (by rw [if_neg hba]; exact hc), upd_ne hba]
        exact hb
    · refine v.mono sF (fun b z hb => ?_) (h2 j v hj)
      have hc := part_some hb
      have hba : b ≠ a := fun q => by
        subst q
        rcases ha with ha | ha
        · refine ha (part_out ?_)
          rw [hc]
          intro z
          exact hne (Option.some.inj z).symm
        · rw [part_in hc, ha] at hb
          cases hb
      rw [part_in hc] at hb
      rw [part_in (by rw [if_neg hba]; exact hc), upd_ne hba]
      exact hb
/-- a new thing of one object -/
theorem Sep.new (h : Sep F R0 w R) (ha : R a = none) (hu : u.P F (L2.upd no a o)) : Sep F R0 (w ++ [u]) (L2.upd R a o) := by
  obtain ⟨c, h1, h2⟩ := h
  have key : ∀ b z, R b = some z → b ≠ a := fun b z hb q => by
    subst q
    rw [ha] at hb
    cases hb
  refine ⟨fun b => if b = a then some w.length else c b, fun b z hb => ?_, fun j v hj => ?_⟩
  · have hb' := h1 b z hb
    have hba := key b z hb'.1
    rw [upd_ne hba]
    exact ⟨hb'.1, (if_neg hba).trans hb'.2⟩
  · by_cases hjl : j < w.length
    · rw [List.getElem?_append_left hjl] at hj
      refine v.mono (Same.refl _) (fun b z hb => ?_) (h2 j v hj)
      have hc := part_some hb
      rw [part_in hc] at hb
      have hba := key b z hb
      rw [part_in (by rw [if_neg hba]; exact hc), upd_ne hba]
      exact hb
    · rw [List.getElem?_append_right (by omega)] at hj
      have ej : j - w.length = 0 := by
        cases q : j - w.length with
        | zero => rfl
        | succ n =>
          rw [q] at hj
          simp at hj
      rw [ej] at hj
      have ev : u = v := by simpa using hj
      subst ev
      have ej2 : j = w.length := by omega
      subst ej2
      refine u.mono (Same.refl _) (fun b z hb => ?_) hu
      by_cases hba : b = a
      · subst hba
        rw [part_in (by rw [if_pos rfl]), upd_same]
        rw [upd_same] at hb
        exact hb
      · rw [upd_ne hba] at hb
        cases hb
/-- a thing of data alone -/
theorem Sep.fact (h : Sep F R0 w R) (hu : u.P F no) : Sep F R0 (w ++ [u]) R := by
  obtain ⟨c, h1, h2⟩ := h
  refine ⟨fun b => if c b = some w.length then none else c b, fun b z hb => ?_, fun j v hj => ?_⟩
  · obtain ⟨r1, r2⟩ := h1 b z hb
    refine ⟨r1, ?_⟩
    show (if c b = some w.length then none else c b) = none
    rw [r2]
    rfl
  · by_cases hjl : j < w.length
    · rw [List.getElem?_append_left hjl] at hj
      refine v.mono (Same.refl _) (fun b z hb => ?_) (h2 j v hj)
      have hc := part_some hb
      rw [part_in hc] at hb
      rw [part_in ?_]
      · exact hb
      · rw [hc, if_neg (fun q => by have := Option.some.inj q; omega)]
    · rw [List.getElem?_append_right (by omega)] at hj
      have ej : j - w.length = 0 := by
        cases q : j - w.length with
        | zero => rfl
        | succ n =>
          rw [q] at hj
          simp at hj
      rw [ej] at hj
      have ev : u = v := by simpa using hj
      subst ev
      exact u.mono (Same.refl _) (fun b z hb => by cases hb) hu
theorem Sep.drop {w' : List Thing} (h : Sep F R0 (w ++ w') R) : Sep F R0 w R := by
  obtain ⟨c, h1, h2⟩ := h
  refine ⟨c, h1, fun i t e => h2 i t ?_⟩
  obtain ⟨hi, _⟩ := List.getElem?_eq_some_iff.mp e
  rw [List.getElem?_append_left hi]
  exact e
/-- a thing becomes a part of another one -/
theorem Sep.join {t' : Thing} (h : Sep F R0 w R) (hi : w[i]? = some t) (hj : w[j]? = some u) (hij : i ≠ j) (hp : ∀ M N, t.P F M → u.P F N → (∀ a, M a = none ∨ N a = none) → t'.P F (un M N)) : Sep F R0 ((w.set i t').set j EmpT) R := by
  obtain ⟨c, h1, h2⟩ := h
  refine ⟨fun b => if c b = some j then some i else c b, fun b z hb => ?_, fun k v hk => ?_⟩
  · obtain ⟨r1, r2⟩ := h1 b z hb
    refine ⟨r1, ?_⟩
    show (if c b = some j then some i else c b) = none
    rw [r2]
    rfl
  · rcases set_at hk with ⟨rfl, rfl⟩ | ⟨hne, hk⟩
    · trivial
    rcases set_at hk with ⟨rfl, rfl⟩ | ⟨hne2, hk⟩
    · refine v.mono (Same.refl _) (fun b z hb => ?_) (hp _ _ (h2 i t hi) (h2 j u hj) fun a => ?_)
      · cases q : part R c i b with
        | some z' =>
          rw [un_l q] at hb
          have hc := part_some q
          rw [part_in hc] at q
          rw [part_in (by rw [hc, if_neg (fun e => hij (Option.some.inj e))])]
          rw [q]
          exact hb
        | none =>
          rw [un_r q] at hb
          have hc := part_some hb
          rw [part_in hc] at hb
          rw [part_in (by rw [if_pos hc])]
          exact hb
      · by_cases hc : c a = some i
        · exact .inr (part_out (by rw [hc]; exact fun e => hij (Option.some.inj e)))
        · exact .inl (part_out hc)
    · refine v.mono (Same.refl _) (fun b z hb => ?_) (h2 k v hk)
      have hc := part_some hb
      rw [part_in hc] at hb
      rw [part_in ?_]
      · exact hb
      · rw [hc, if_neg (fun e => hne (Option.some.inj e).symm)]
/-- seen from a def that is called: the caller's own lists are of the frame -/
theorem Sep.into {L : Hp} (h : Sep F R0 w R) (d : ∀ a, L a = none ∨ R a = none) : Sep F (un L R0) w (un L R) := by
  obtain ⟨c, h1, h2⟩ := h
  refine ⟨fun b => if (L b).isSome then none else c b, fun b z hb => ?_, fun i t e => ?_⟩
  · cases q : L b with
    | some z' =>
      rw [un_l q] at hb ⊢
      exact ⟨hb, by simp [q]⟩
    | none =>
      rw [un_r q] at hb ⊢
      obtain ⟨r1, r2⟩ := h1 b z hb
      exact ⟨r1, by simp [q, r2]⟩
  · refine t.mono (Same.refl _) (fun b z hb => ?_) (h2 i t e)
    have hc := part_some hb
    rw [part_in hc] at hb
    have q := none_l d hb
    rw [part_in (by simp [q, hc]), un_r q]
    exact hb
theorem Sep.back {L M : Hp} (h : Sep F (un L R0) w M) (d : ∀ a, L a = none ∨ R0 a = none) : ∃ R', M = un L R' ∧ (∀ a, L a = none ∨ R' a = none) ∧ Sep F R0 w R' := by
  obtain ⟨c, h1, h2⟩ := h
  refine ⟨fun a => match L a with | some _ => none | none => M a, ?_, fun a => ?_, c, fun b z hb => ?_, fun i t e => ?_⟩
  · funext a
    cases q : L a with
    | some z =>
      rw [un_l q]
      exact (h1 a z (un_l q)).1
    | none =>
      rw [un_r q]
      simp [q]
  · cases q : L a with
    | some z => exact .inr (by simp [q])
    | none => exact .inl rfl
  · have q := none_l d hb
    obtain ⟨r1, r2⟩ := h1 b z (by rw [un_r q]; exact hb)
    exact ⟨by simp [q]; exact r1, r2⟩
  · refine t.mono (Same.refl _) (fun b z hb => ?_) (h2 i t e)
    have hc := part_some hb
    rw [part_in hc] at hb
    rw [part_in hc]
    cases q : L b with
    | some z' =>
      have := (h1 b z' (un_l q)).2
      rw [hc] at this
      cases this
    | none =>
      simp [q]
      exact hb
theorem Sep.sub (h : Sep F R0 w R) : Same R0 R := fun a o e => by
  obtain ⟨c, h1, _⟩ := h
  exact (h1 a o e).1
end
/-- the world: a list of things over a frame R0 -/
abbrev ThW (R0 : Hp) : Wd := ⟨List Thing, fun w F R => Sep F R0 w R, fun s h => h.mono s⟩
inductive ResS where
  | ok (sv : Sv)
  | ex (c : Str)
/-- what a def does: arguments, things; what comes, and the things behind it -/
abbrev Spc := List Sv → List Thing → (ResS → List Thing → Prop) → Prop
def pmW (sp : Spc) : Pm := fun vs F M q e => ∃ svs w R0 Qs, Paired (fun v sv => RpS F no v sv ∧ isOwn sv = false) vs svs ∧ Sep F R0 w M ∧ sp svs w Qs ∧ (∀ sv w' v F' M', Qs (.ok sv) w' → Same F F' → Sep F' R0 w' M' → RpS F' no v sv → isOwn sv = false → q v F' M') ∧
  ∀ c w' F' M', Qs (.ex c) w' → Same F F' → Sep F' R0 w' M' → e c F' M'
theorem pmW_mono {sp : Spc} : ∀ vs F M q q' e e', pmW sp vs F M q e → (∀ v F' M', q v F' M' → q' v F' M') → (∀ c F' M', e c F' M' → e' c F' M') → pmW sp vs F M q' e' := by
  rintro vs F M q q' e e' ⟨svs, w, R0, Qs, h1, h2, h3, h4, h5⟩ hq he
  exact ⟨svs, w, R0, Qs, h1, h2, h3, fun sv w' v F' M' a b c d z => hq _ _ _ (h4 sv w' v F' M' a b c d z), fun c w' F' M' a b d => he _ _ _ (h5 c w' F' M' a b d)⟩
def outW (Q : ResS → List Thing → Prop) : Out (List Thing) := ⟨fun _ w => Q (.ok (.d .none)) w, fun sv w => Q (.ok sv) w, fun c _ w => Q (.ex c) w, fun _ _ => False, fun _ _ => False⟩
section
variable {P : Program} {w : World} {K : PySem.W.Frag} {mg : Str → Option Value} {base : Heap} {CA : Str → Addr}
theorem RpS.anyL {F L L' : Hp} {v : V} : ∀ {sv : Sv}, isOwn sv = false → RpS F L v sv → RpS F L' v sv
  | .d _, _, h => h
  | .raw _, _, h => h
  | .exc _, _, h => h
/-- a def over things -/
theorem fn_w {x qual : Str} {params : Arguments} {body : List Stmt} {scope : Scope} {dvs : List V} {kws : List (Str × V)} {f : Addr} {fd : FuncData} {N ps : List Str} {k : Nat} {sp : Spc} (Fd : FunD K x qual params body scope dvs kws f fd) (S : FnScope N ps scope) (len : ∀ svs w Q, sp svs w Q → svs.length = ps.length)
    (hbody : ∀ (cdv : Value) (A : Around) (outer : List Env) (s : Shared) (H : Hp) (E : XK) (R0 : Hp) (svs : List Sv) (th : List Thing) (Q : ResS → List Thing → Prop), Room k (A.deeper (envOfC qual scope s.heap.objs.size f cdv)) → sp svs th Q →
      SB (cxOf (L2.CX P w) P w K mg base N qual scope f cdv A outer s H E) CA (ThW R0) (startS N.length svs) th body (outW Q)) :
    FnOk P w K mg base (L2.CX P w) (k + 1) f fd ps (lift CA (pmW sp)) := by
  refine fn_any Fd S (fun vs F M q e h => ?_) (fun cdv A outer s H E hr vs F M q e h => ?_)
  · obtain ⟨svs, w, R0, Qs, r, _, h1, _⟩ := h
    rw [paired_len r]
    exact len svs w Qs h1
  · obtain ⟨svs, th, R0, Qs, r, hS, h1, hq, he⟩ := h
    refine ⟨ThW R0, th, _, _, sg_start r, hS, hbody cdv A outer s H E R0 svs th Qs hr h1, ?_, ?_, ?_, ?_, ?_⟩
    · exact fun ρ' w' F' R' o s' i' => hq (.d .none) w' .non F' R' o s' i' .non rfl
    · exact fun sv w' v F' L' R' o s' i' r' n' => hq sv w' v F' R' o s' i' (RpS.anyL n' r') n'
    · exact fun c ρ' w' F' R' o s' i' => he c w' F' R' o s' i'
    · exact fun _ _ o => o
    · exact fun _ _ o => o
end
section
variable {X : Cx} {CA : Str → Addr} {R0 : Hp} {ρ : Rho} {w : List Thing} {e : Expr} {es : List Expr} {pos p : Pos} {O : Sv → List Thing → Prop} {Ox : Str → List Thing → Prop}
def resS (O : Sv → List Thing → Prop) (Ox : Str → List Thing → Prop) : ResS → List Thing → Prop
  | .ok sv, w => O sv w
  | .ex c, w => Ox c w
theorem paired_noL {F L : Hp} : ∀ {vs : List V} {svs : List Sv}, Paired (fun v sv => RpS F L v sv ∧ isOwn sv = false) vs svs → Paired (fun v sv => RpS F no v sv ∧ isOwn sv = false) vs svs
  | _, _, .nil => .nil
  | _, _, .cons h r => .cons ⟨RpS.anyL h.2 h.1, h.2⟩ (paired_noL r)
/-- f(..) -/
theorem es_callW {k : Nat} {x : Str} {sp : Spc} (fn : FnX X k x (lift CA (pmW sp))) (hr : Room k X.A) (h : EvSA X CA (ThW R0) ρ w (e :: es) (fun svs w1 => sp svs w1 (resS O Ox)) Ox) (hg : Gl X x := by rfl) (hdb : (x == ("__debug__" : Str)) = false := by decide)
    (he : starEach (e :: es) X.env = (false, eval e X.env) :: starEach es X.env := by rfl) (hpl : (backTo pos (starEach es X.env)).any (·.1) = false := by rfl) : EvS X CA (ThW R0) ρ w (.Call (.Name x p) (e :: es) [] pos) O Ox := by
  refine es_call fn hr (fun F L R H σ g i kk Q Wx tk q qx => h F L R H σ g i kk Q Wx tk (fun svs w1 vs F' R' H' o => q svs w1 vs F' R' H' ?_) qx) pmW_mono hg hdb he hpl
  intro F1 L1 R1 vs1 i1 dj1 dj2 r1
  have d0 : ∀ a, L1 a = none ∨ R0 a = none := fun a => by
    rcases dj2 a with z | z
    · exact .inl z
    · exact .inr (i1.sub.free z)
  refine ⟨svs, w1, un L1 R0, _, paired_noL r1, i1.into dj2, o, fun sv w' v F' M' hq s' hs hv hn _ => ?_, fun c w' F' M' hq s' hs _ => ?_⟩
  · obtain ⟨R', e1, e2, e3⟩ := hs.back d0
    exact ⟨sv, w', R', hq, e1, e2, e3, RpS.anyL hn hv, hn⟩
  · obtain ⟨R', e1, e2, e3⟩ := hs.back d0
    exact ⟨w', R', hq, e1, e2, e3⟩
end
end G
end

section
set_option Elab.async false
set_option linter.all false
set_option maxRecDepth 100000
set_option maxHeartbeats 4000000
/-! ### things: the script, the town; instances -/
namespace G
open PySem PySem.Spec PyProof.Rows L2
def ScrT (K : PySem.W.Frag) (sa : Addr) (ns : List Int) : Thing := ⟨fun F _ => SqL K F sa (ns.map V.int), fun s _ h => same_sql s h⟩
def TownT (ta : Addr) (n : Nat) : Thing := ⟨fun _ M => M ta = some (zeros n), fun _ s h => s _ _ h⟩
/-- an object stands in the heap, by the things -/
def InH (w : List Thing) (a : Addr) (o : HO) : Prop := ∀ F R0 R H, Sep F R0 w R → Same F H → Same R H → H a = some o
def Has (t : Thing) (a : Addr) (o : HO) : Prop := ∀ F M, t.P F M → F a = some o ∨ M a = some o
theorem inH_of {w : List Thing} {t : Thing} {a : Addr} {o : HO} (i : Nat) (e : w[i]? = some t) (h : Has t a o) : InH w a o := fun F R0 R H s sf sr => by
  obtain ⟨M, h1, h2⟩ := s.get e
  rcases h F M h1 with q | q
  · exact sf _ _ q
  · exact sr _ _ (h2 _ _ q)
section
variable {X : Cx} {CA : Str → Addr} {R0 : Hp} {ρ : Rho} {w : List Thing} {e : Expr} {es : List Expr} {pos p apos : Pos} {O : Sv → List Thing → Prop} {Ox : Str → List Thing → Prop} {OS : Out (List Thing)}
/-- a call of a def that draws -/
theorem es_townW {k c : Nat} {x : Str} {pre : List PyData → Prop} {post : List PyData → PyData → Prop} (fn : FnX X k x (lift CA (pmT X.K c pre post))) (hr : Room k X.A)
    (h : EvSA X CA (ThW R0) ρ w (e :: es) (fun svs w1 => ∃ (sa ta : Addr) (ns : List Int) (n i j : Nat) (ds : List PyData), svs = .raw (.ref sa) :: .raw (.ref ta) :: ds.map Sv.d ∧ w1[i]? = some (ScrT X.K sa ns) ∧ w1[j]? = some (TownT ta n) ∧ n + c ≤ 1000000 ∧ pre ds ∧ ∀ d n', post ds d → n ≤ n' → n' ≤ n + c → O (.d d) (w1.set j (TownT ta n'))) Ox)
    (hg : Gl X x := by rfl) (hdb : (x == ("__debug__" : Str)) = false := by decide)
    (he : starEach (e :: es) X.env = (false, eval e X.env) :: starEach es X.env := by rfl) (hpl : (backTo pos (starEach es X.env)).any (·.1) = false := by rfl) : EvS X CA (ThW R0) ρ w (.Call (.Name x p) (e :: es) [] pos) O Ox := by
  refine es_call fn hr (fun F L R H σ g i kk Q Wx tk q qx => h F L R H σ g i kk Q Wx tk (fun svs w1 vs F' R' H' o => q svs w1 vs F' R' H' ?_) qx) pmT_mono hg hdb he hpl
  obtain ⟨sa, ta, ns, n, i, j, ds, e1, hi, hj, hn, hp, o⟩ := o
  subst e1
  intro F1 L1 R1 vs1 i1 dj1 dj2 r1
  cases r1 with
  | cons r1 r2 =>
    cases r2 with
    | cons r2 r3 =>
      obtain ⟨r1, _⟩ := r1
      obtain ⟨r2, _⟩ := r2
      cases r1
      cases r2
      obtain ⟨_, hS, _⟩ := i1.get hi
      obtain ⟨M, hT, hM, hU⟩ := i1.upd hj
      have hT : M ta = some (zeros n) := hT
      have hTR : R1 ta = some (zeros n) := hM _ _ hT
      have hL : L1 ta = none := none_l dj2 hTR
      refine ⟨sa, ta, ns, n, _, ds, rfl, rpA_of r3, hS, by rw [un_r hL]; exact hTR, hn, hp, fun v F2 d n' s2 po r2 h1 h2 s2' => ?_⟩
      refine ⟨.d d, w1.set j (TownT ta n'), upd R1 ta (zeros n'), o d n' po h1 h2, un_upd hL, fun a => ?_, hU F2 ta (zeros n') (TownT ta n') s2 (.inl (by rw [hT]; simp)) upd_same, r2, rfl⟩
      by_cases ha : a = ta
      · subst ha
        exact .inl hL
      · rw [upd_ne ha]
        exact dj2 a
/-- e.f of an instance -/
theorem es_fld {f : Str} (h : EvS X CA (ThW R0) ρ w e (fun sv w1 => ∃ (a C dx : Addr) (fs : List (Str × V)) (v : V) (sv' : Sv), sv = .raw (.ref a) ∧ InH w1 a (.ins C dx fs) ∧ Cls X.K C ∧ NoAttr X.K C f ∧ fs.lookup f = some v ∧ (∀ F R, Sep F R0 w1 R → RpS F no v sv') ∧ isOwn sv' = false ∧ O sv' w1) Ox)
    (hb : attributeBase e f X.env (eval e X.env) = eval e X.env := by rfl) : EvS X CA (ThW R0) ρ w (.Attribute e f pos) O Ox := fun F L R H σ g ii k Q Wx tk q qx =>
  toE (pe_fld (pe_w e) hb) (h F L R H σ g ii k _ Wx tk (fun sv w1 u F1 R1 H1 o s1 i1 r1 n1 k1 => by
    obtain ⟨a, C, dx, fs, v, sv', e1, h1, h2, h3, h4, h5, h6, o⟩ := o
    subst e1
    cases r1
    exact ⟨a, C, dx, fs, v, rfl, h1 F1 R0 R1 H1 i1 k1.f k1.r, h2, h3, h4, q sv' w1 v F1 R1 H1 o s1 i1 (RpS.anyL h6 (h5 F1 R1 i1)) h6 k1⟩) qx)
/-- x, a name for a place -/
theorem es_name (i : Nat) {x : Str} {v : V} (o : O (.raw v) w) (h : ρ[i]? = some (some (.raw v)) := by rfl) (hN : X.N[i]? = some x := by rfl) (hv : Vis X.env.scope x := by first | exact Or.inl rfl | exact Or.inr (Or.inl rfl) | exact Or.inr (Or.inr rfl)) (hd : (x == ("__debug__" : Str)) = false := by decide)
    (hcd : (x == ("__classdict__" : Str)) = false := by decide) : EvS X CA (ThW R0) ρ w (.Name x pos) O Ox := es_raw i o h hN hv hd hcd
/-- e.f = v -/
theorem s_fld {b : Expr} {f : Str} {pos' : Pos} (h : EvS X CA (ThW R0) ρ w e (fun sv w1 => EvS X CA (ThW R0) ρ w1 b (fun sv' w2 => ∃ (a C dx : Addr) (fs : List (Str × V)) (i : Nat) (t u : Thing), sv' = .raw (.ref a) ∧ w2[i]? = some t ∧ (∀ F M, t.P F M → M a = some (.ins C dx fs)) ∧ Cls X.K C ∧ NoAttr X.K C f ∧ fs.length < 1000 ∧
      (∀ F M v, t.P F M → RpS F no v sv → u.P F (upd M a (.ins C dx (putF f v fs)))) ∧ OS.nx ρ (w2.set i u)) (fun c w2 => OS.ex c ρ w2)) (fun c w1 => OS.ex c ρ w1))
    (hs : swapsWith e (some (.Attribute b f pos')) pos.line X.env = pure false := by rfl) : S1 X CA (ThW R0) ρ w (.Assign [.Attribute b f pos'] e pos) OS := fun F L R H σ g ii k D Wx tk m => by
  refine toS (ps_fld (pe_w b) (pe_w e) hs) (es_two (a := e) (b := b) (Y := ThW R0) (Ox := fun c w1 => OS.ex c ρ w1) (O2 := fun sv sv' w2 => ∃ (a C dx : Addr) (fs : List (Str × V)) (i : Nat) (t u : Thing), sv' = .raw (.ref a) ∧ w2[i]? = some t ∧ (∀ F M, t.P F M → M a = some (.ins C dx fs)) ∧ Cls X.K C ∧ NoAttr X.K C f ∧ fs.length < 1000 ∧
      (∀ F M v, t.P F M → RpS F no v sv → u.P F (upd M a (.ins C dx (putF f v fs)))) ∧ OS.nx ρ (w2.set i u)) h g ii k tk (fun c w' F' R' H' o s' i' k' => m.ex c ρ w' F' L R' H' σ o s' i' (g.mono s') k') fun x y w2 u v F2 R2 H2 o2 s2 i2 r1 r2 n1 n2 k2 => ?_)
  obtain ⟨a, C, dx, fs, i, t, th, e1, hi, hM, c, na, hl, hu, o⟩ := o2
  subst e1
  cases r2
  obtain ⟨M, hP, hMR, hU⟩ := Sep.upd i2 hi
  have ha := hM F2 M hP
  have haR := hMR _ _ ha
  exact ⟨a, C, dx, fs, rfl, k2.r _ _ haR, c, na, hl, m.nx ρ _ F2 L _ _ σ o s2 (hU F2 a _ th (Same.refl _) (.inl (by rw [ha]; simp)) (hu F2 M u hP (RpS.anyL n1 r1))) (g.mono s2) (k2.setR haR)⟩
end
end G
end

section
set_option Elab.async false
set_option linter.all false
set_option maxRecDepth 100000
set_option maxHeartbeats 4000000
/-! ### methods and makers over things -/
namespace G
open PySem PySem.Spec PyProof.Rows L2
section
variable {X : Cx} {k : Nat} {f C : Addr} {fd : FuncData} {ps : List Str} {sp : Sp} {E : L2.St → XK} {x m : Str} {p pos apos : Pos} {e o : Expr} {es : List Expr} {ta : TE} {t : TA}
def tMethS (C : Addr) (m : Str) (sp : Sp) (E : L2.St → XK) (ta : TE) (t : TA) : TE := fun σ H Q => ta σ H fun x H1 => ∃ a dx fs, x = .ref a ∧ H1 a = some (.ins C dx fs) ∧ fs.lookup m = none ∧ t σ H1 fun vs H2 => sp (x :: vs) H2 Q (E σ)
def tMakeS (C : Addr) (sp : Sp) (E : L2.St → XK) (t : TA) : TE := fun σ H Q => t σ H fun vs H1 => ∀ x dx, H1 x = none → H1 dx = none → dx ≠ x → sp (.ref x :: vs) (upd (upd H1 dx (.own x)) x (.ins C dx [])) (fun v H2 => v = .non ∧ Q (.ref x) H2) (E σ)
theorem pe_mS {pl : Sem Bool} (he : PE X o ta) (c : Cls X.K C) (hm : Meth X.K C m f) (F : FnOk X.prog X.w X.K X.mg X.base (L2.CX X.prog X.w) k f fd ps sp) (hr : Room k X.A) (hb : Binds X.K fd ps []) (hx : ∀ σ, PassesAt (L2.CX X.prog X.w) X σ (E σ)) (ha : PA X (e :: es) t)
    (hst : starEach (e :: es) X.env = (false, eval e X.env) :: starEach es X.env) (hpl : (backTo pos (starEach es X.env)).any (·.1) = false)
    (ht : eval (.Call (.Attribute o m apos) (e :: es) [] pos) X.env = (do
      let ov ← eval o X.env
      standAt apos.atName
      let (f, first) ← holding [ov] (getMethod ov m pl)
      callWith pos f first (backTo pos (starEach (e :: es) X.env)) (backToKw pos (keywordEach [] X.env)))) :
    PE X (.Call (.Attribute o m apos) (e :: es) [] pos) (tMethS C m sp E ta t) := by
  refine ⟨fun pins s σ H Q I h => ?_⟩
  refine PySem.W.methodCall_KW (pl := pl) (thn (he.run pins s σ H _ I h) fun u s1 ⟨x, H1, I1, rx, a, dx, fs, ex, ea, l, q⟩ => ?_) ht
  subst ex
  obtain rfl : u = Value.ref a := rx
  refine getmeth_ok I1 ea c hm l ?_
  refine PySem.W.callWith_K (first := [.ref a]) (h₀ := X.base) I.ok.mod.kin hm.kp (thn (ha.run pos pins s1 σ H1 _ I1 q) fun us s2 ⟨vs, H2, I2, r, q2⟩ => ⟨I2.kIn, ?_⟩) hst hpl
  exact run_fnS (us := .ref a :: us) (vs := .ref a :: vs) F hr hb (hx σ) I2 (.cons rfl r) q2
theorem pe_mS0 {pl : Sem Bool} (he : PE X o ta) (c : Cls X.K C) (hm : Meth X.K C m f) (F : FnOk X.prog X.w X.K X.mg X.base (L2.CX X.prog X.w) k f fd ps sp) (hr : Room k X.A) (hb : Binds X.K fd ps []) (hx : ∀ σ, PassesAt (L2.CX X.prog X.w) X σ (E σ))
    (ht : eval (.Call (.Attribute o m apos) [] [] pos) X.env = (do
      let ov ← eval o X.env
      standAt apos.atName
      let (f, first) ← holding [ov] (getMethod ov m pl)
      callWith pos f first (backTo pos (starEach [] X.env)) (backToKw pos (keywordEach [] X.env)))) :
    PE X (.Call (.Attribute o m apos) [] [] pos) (tMethS C m sp E ta tNil) := by
  refine ⟨fun pins s σ H Q I h => ?_⟩
  refine PySem.W.methodCall_KW (pl := pl) (thn (he.run pins s σ H _ I h) fun u s1 ⟨x, H1, I1, rx, a, dx, fs, ex, ea, l, q⟩ => ?_) ht
  subst ex
  obtain rfl : u = Value.ref a := rx
  refine getmeth_ok I1 ea c hm l ?_
  exact PySem.W.callWith_K0 (first := [.ref a]) I1.kIn hm.kp (run_fnS (us := [.ref a]) (vs := [.ref a]) F hr hb (hx σ) I1 (.cons rfl .nil) q)
theorem run_makeS {pins : List (Addr × Obj)} {σ : L2.St} {H : Hp} {s : Shared} {Q : VK} {us : List Value} {vs : List V} (M : Mk X.K C f) (F : FnOk X.prog X.w X.K X.mg X.base (L2.CX X.prog X.w) k f fd ps sp) (hr : Room (k + 1) X.A) (hb : Binds X.K fd ps []) (hx : PassesAt (L2.CX X.prog X.w) X σ (E σ)) (I : Inv X pins σ H s) (r : Vals vs us)
    (h : ∀ x dx, H x = none → H dx = none → dx ≠ x → sp (.ref x :: vs) (upd (upd H dx (.own x)) x (.ins C dx [])) (fun v H2 => v = .non ∧ Q (.ref x) H2) (E σ)) :
    wpAny (model X.prog X.w) X.A (call (.ref C) us) (EP X pins σ Q) X.xe s := by
  have hq := h (s.heap.objs.size + 1) s.heap.objs.size (I.hok.fresh (Nat.le_succ _)) (I.hok.fresh (Nat.le_refl _)) (Nat.ne_of_lt (Nat.lt_succ_self _))
  have I2 := Inv.made (C := C) I
  have r2 : Vals (V.ref (s.heap.objs.size + 1) :: vs) (Value.ref (s.heap.objs.size + 1) :: us) := .cons rfl r
  have hl : (Value.ref (s.heap.objs.size + 1) :: us).length = ps.length := by
    have e := r2.length
    rw [F.len _ _ _ _ hq] at e
    exact e.symm
  have b := hb _ (Value.ref (s.heap.objs.size + 1) :: us) I2.kIn (by rw [List.append_nil]; exact hl)
  rw [List.append_nil] at b
  refine wpAny_call (make_map (f := f) I.kIn M.makes M.init (beq_iff_eq.mp M.fn) (codeAny_mono (F.run _ X.stack _ _ ⟨Value.ref (s.heap.objs.size + 1) :: us, []⟩ (Value.ref (s.heap.objs.size + 1) :: us) _ _ (E σ) (hr.make C us [])
    (I2.env0.make C us []) b r2 hq) fun r s' hq' => ?_))
  cases r with
  | error e => exact hx pins _ _ e s' I2 hq'
  | ok fl =>
    cases fl with
    | ret u =>
      obtain ⟨v, H', I3, rv, ev, q3⟩ := I2.after hq'
      subst ev
      exact ⟨rv, ⟨V.ref (s.heap.objs.size + 1), H', I3, rfl, q3⟩⟩
    | next => exact False.elim hq'
    | brk => exact False.elim hq'
    | cont => exact False.elim hq'
theorem pe_mkS (M : Mk X.K C f) (F : FnOk X.prog X.w X.K X.mg X.base (L2.CX X.prog X.w) k f fd ps sp) (hr : Room (k + 1) X.A) (hg : Gl X x) (hm : X.mg x = some (.ref C)) (hb : Binds X.K fd ps []) (hx : ∀ σ, PassesAt (L2.CX X.prog X.w) X σ (E σ))
    (ha : PA X (e :: es) t) (hdb : (x == ("__debug__" : Str)) = false) (he : starEach (e :: es) X.env = (false, eval e X.env) :: starEach es X.env) (hpl : (backTo pos (starEach es X.env)).any (·.1) = false) :
    PE X (.Call (.Name x p) (e :: es) [] pos) (tMakeS C sp E t) := by
  refine ⟨fun pins s σ H Q I h => ?_⟩
  refine wpAny_Call_Name_kw (ld_glob I hg hm ?_ hdb)
  refine PySem.W.callWith_K (h₀ := X.base) I.ok.mod.kin M.kp (thn (ha.run pos pins s σ H _ I h) fun us s1 ⟨vs, H1, I1, r, q⟩ => ⟨I1.kIn, ?_⟩) he hpl
  exact run_makeS M F hr hb (hx σ) I1 r q
theorem pe_mkS0 (M : Mk X.K C f) (F : FnOk X.prog X.w X.K X.mg X.base (L2.CX X.prog X.w) k f fd ps sp) (hr : Room (k + 1) X.A) (hg : Gl X x) (hm : X.mg x = some (.ref C)) (hb : Binds X.K fd ps []) (hx : ∀ σ, PassesAt (L2.CX X.prog X.w) X σ (E σ))
    (hdb : (x == ("__debug__" : Str)) = false) : PE X (.Call (.Name x p) [] [] pos) (tMakeS C sp E tNil) := by
  refine ⟨fun pins s σ H Q I h => ?_⟩
  refine wpAny_Call_Name_kw (ld_glob I hg hm ?_ hdb)
  exact PySem.W.callWith_K0 I.kIn M.kp (run_makeS (us := []) M F hr hb (hx σ) I .nil h)
end
/-- a method, a class's maker, by name, with its promise -/
structure FnM (P : Program) (w : World) (K : PySem.W.Frag) (mg : Str → Option Value) (base : Heap) (k : Nat) (C : Addr) (m : Str) (sp : Sp) : Prop where
  ex : ∃ f fd ps, FnOk P w K mg base (L2.CX P w) k f fd ps sp ∧ Meth K C m f ∧ Binds K fd ps []
structure FnN (P : Program) (w : World) (K : PySem.W.Frag) (mg : Str → Option Value) (base : Heap) (k : Nat) (C : Addr) (x : Str) (sp : Sp) : Prop where
  ex : ∃ f fd ps, FnOk P w K mg base (L2.CX P w) k f fd ps sp ∧ Mk K C f ∧ mg x = some (.ref C) ∧ Binds K fd ps []
section
variable {X : Cx} {CA : Str → Addr} {R0 : Hp} {ρ : Rho} {w : List Thing} {e o : Expr} {es : List Expr} {pos p apos : Pos} {O : Sv → List Thing → Prop} {Ox : Str → List Thing → Prop} {sp : Spc} {k : Nat} {C : Addr} {m x : Str}
theorem lift_w {F L R H : Hp} {σ : L2.St} {w1 : List Thing} {vs : List V} {svs : List Sv} {Q : VK} {Wx : WX} (k1 : Ok F L R H) (i1 : Sep F R0 w1 R) (r1 : Paired (fun v sv => RpS F L v sv ∧ isOwn sv = false) vs svs) (h : sp svs w1 (resS O Ox)) (q : ToS (ThW R0) F L O Q) (qx : ToX CA (ThW R0) F L σ Ox Wx) :
    lift CA (pmW sp) vs H Q (WE Wx σ) := by
  have d0 : ∀ a, L a = none ∨ R0 a = none := fun a => by
    rcases k1.lr a with z | z
    · exact .inl z
    · exact .inr (i1.sub.free z)
  refine ⟨F, un L R, k1.join, svs, w1, un L R0, _, paired_noL r1, i1.into k1.lr, h, fun sv w' v F' M' hq s' hs hv hn s'' H' k' => ?_, fun c w' F' M' hq s' hs s'' H' k' => ?_⟩
  · obtain ⟨R', e1, e2, e3⟩ := hs.back d0
    subst e1
    exact q sv w' v F' R' H' hq s' e3 (RpS.anyL hn hv) hn (k'.part e2)
  · obtain ⟨R', e1, e2, e3⟩ := hs.back d0
    subst e1
    exact qx c w' F' R' H' hq s' e3 (k'.part e2)
/-- o.m(..) -/
theorem es_meth {pl : Sem Bool} (fn : FnM X.prog X.w X.K X.mg X.base k C m (lift CA (pmW sp))) (hr : Room k X.A) (c : Cls X.K C)
    (h : EvS X CA (ThW R0) ρ w o (fun sv w1 => ∃ (a dx : Addr) (fs : List (Str × V)), sv = .raw (.ref a) ∧ InH w1 a (.ins C dx fs) ∧ fs.lookup m = none ∧ EvSA X CA (ThW R0) ρ w1 (e :: es) (fun svs w2 => sp (.raw (.ref a) :: svs) w2 (resS O Ox)) Ox) Ox)
    (hst : starEach (e :: es) X.env = (false, eval e X.env) :: starEach es X.env := by rfl) (hpl : (backTo pos (starEach es X.env)).any (·.1) = false := by rfl)
    (ht : eval (.Call (.Attribute o m apos) (e :: es) [] pos) X.env = (do
      let ov ← eval o X.env
      standAt apos.atName
      let (f, first) ← holding [ov] (getMethod ov m pl)
      callWith pos f first (backTo pos (starEach (e :: es) X.env)) (backToKw pos (keywordEach [] X.env))) := by rfl) : EvS X CA (ThW R0) ρ w (.Call (.Attribute o m apos) (e :: es) [] pos) O Ox := fun F L R H σ g i kk Q Wx tk q qx => by
  obtain ⟨f, fd, ps, fn, hm, hb⟩ := fn.ex
  refine toE (pe_mS (pe_w o) c hm fn hr hb (fun τ => passAt tk τ) (pa_w _) hst hpl ht) (h F L R H σ g i kk _ Wx tk (fun sv w1 v F1 R1 H1 o1 s1 i1 r1 n1 k1 => ?_) qx)
  obtain ⟨a, dx, fs, e1, h1, h2, h3⟩ := o1
  subst e1
  cases r1
  refine ⟨a, dx, fs, rfl, h1 F1 R0 R1 H1 i1 k1.f k1.r, h2, h3 F1 L R1 H1 σ (g.mono s1) i1 k1 _ Wx tk (fun svs w2 vs F2 R2 H2 o2 s2 i2 r2 k2 => ?_) (qx.same s1)⟩
  exact lift_w (svs := .raw (.ref a) :: svs) k2 i2 (.cons ⟨rfl, rfl⟩ r2) o2 ((q.same s1).same s2) ((qx.same s1).same s2)
theorem es_meth0 {pl : Sem Bool} (fn : FnM X.prog X.w X.K X.mg X.base k C m (lift CA (pmW sp))) (hr : Room k X.A) (c : Cls X.K C)
    (h : EvS X CA (ThW R0) ρ w o (fun sv w1 => ∃ (a dx : Addr) (fs : List (Str × V)), sv = .raw (.ref a) ∧ InH w1 a (.ins C dx fs) ∧ fs.lookup m = none ∧ sp [.raw (.ref a)] w1 (resS O Ox)) Ox)
    (ht : eval (.Call (.Attribute o m apos) [] [] pos) X.env = (do
      let ov ← eval o X.env
      standAt apos.atName
      let (f, first) ← holding [ov] (getMethod ov m pl)
      callWith pos f first (backTo pos (starEach [] X.env)) (backToKw pos (keywordEach [] X.env))) := by rfl) : EvS X CA (ThW R0) ρ w (.Call (.Attribute o m apos) [] [] pos) O Ox := fun F L R H σ g i kk Q Wx tk q qx => by
  obtain ⟨f, fd, ps, fn, hm, hb⟩ := fn.ex
  refine toE (pe_mS0 (pe_w o) c hm fn hr hb (fun τ => passAt tk τ) ht) (h F L R H σ g i kk _ Wx tk (fun sv w1 v F1 R1 H1 o1 s1 i1 r1 n1 k1 => ?_) qx)
  obtain ⟨a, dx, fs, e1, h1, h2, h3⟩ := o1
  subst e1
  cases r1
  exact ⟨a, dx, fs, rfl, h1 F1 R0 R1 H1 i1 k1.f k1.r, h2, lift_w (svs := [.raw (.ref a)]) k1 i1 (.cons ⟨rfl, rfl⟩ .nil) h3 (q.same s1) (qx.same s1)⟩
/-- a new instance -/
def InsT (C a dx : Addr) (fs : List (Str × V)) : Thing := ⟨fun _ M => M a = some (.ins C dx fs) ∧ M dx = some (.own a), fun _ s h => ⟨s _ _ h.1, s _ _ h.2⟩⟩
def OwnT (a dx : Addr) : Thing := ⟨fun _ M => M dx = some (.own a), fun _ s h => s _ _ h⟩
theorem sep_ins {F R : Hp} {a dx : Addr} (h : Sep F R0 w R) (ha : R a = none) (hd : R dx = none) (hne : dx ≠ a) : Sep F R0 (w ++ [InsT C a dx []]) (upd (upd R dx (.own a)) a (.ins C dx [])) := by
  have h1 : Sep F R0 (w ++ [OwnT a dx]) (upd R dx (.own a)) := h.new hd upd_same
  obtain ⟨M, hM, hMR, hU⟩ := h1.upd (i := w.length) (t := OwnT a dx) (by simp)
  have h2 := hU F a (.ins C dx []) (InsT C a dx []) (Same.refl _) (.inr (by rw [upd_ne (Ne.symm hne)]; exact ha)) ⟨upd_same, by rw [upd_ne hne]; exact hM⟩
  have e : (w ++ [OwnT a dx]).set w.length (InsT C a dx []) = w ++ [InsT C a dx []] := by simp
  rw [e] at h2
  exact h2
theorem ok_ins {F L R H : Hp} {a dx : Addr} (k : Ok F L R H) (ha : H a = none) (hd : H dx = none) (hne : dx ≠ a) : Ok F L (upd (upd R dx (.own a)) a (.ins C dx [])) (upd (upd H dx (.own a)) a (.ins C dx [])) :=
  (k.newR hd).newR (by rw [upd_ne (Ne.symm hne)]; exact ha)
/-- C(..) -/
theorem es_make (fn : FnN X.prog X.w X.K X.mg X.base k C x (lift CA (pmW sp))) (hr : Room (k + 1) X.A)
    (h : EvSA X CA (ThW R0) ρ w (e :: es) (fun svs w1 => ∀ a dx, dx ≠ a → sp (.raw (.ref a) :: svs) (w1 ++ [InsT C a dx []]) (resS (fun sv w2 => sv = .d .none ∧ O (.raw (.ref a)) w2) Ox)) Ox) (hg : Gl X x := by rfl) (hdb : (x == ("__debug__" : Str)) = false := by decide)
    (he : starEach (e :: es) X.env = (false, eval e X.env) :: starEach es X.env := by rfl) (hpl : (backTo pos (starEach es X.env)).any (·.1) = false := by rfl) : EvS X CA (ThW R0) ρ w (.Call (.Name x p) (e :: es) [] pos) O Ox := fun F L R H σ g i kk Q Wx tk q qx => by
  obtain ⟨f, fd, ps, fn, hM, hm, hb⟩ := fn.ex
  refine toE (pe_mkS hM fn hr hg hm hb (fun τ => passAt tk τ) (pa_w _) hdb he hpl) (h F L R H σ g i kk _ Wx tk (fun svs w1 vs F1 R1 H1 o1 s1 i1 r1 k1 => ?_) qx)
  intro a dx ha hd hne
  refine lift_w (svs := .raw (.ref a) :: svs) (ok_ins k1 ha hd hne) (sep_ins i1 (k1.r.free ha) (k1.r.free hd) hne) (.cons ⟨rfl, rfl⟩ r1) (o1 a dx hne) (fun sv w2 v F2 R2 H2 o2 s2 i2 r2 n2 k2 => ?_) (qx.same s1)
  obtain ⟨e1, o2⟩ := o2
  subst e1
  cases r2
  exact ⟨rfl, q (.raw (.ref a)) w2 (.ref a) F2 R2 H2 o2 (s1.trans s2) i2 rfl rfl k2⟩
theorem es_make0 (fn : FnN X.prog X.w X.K X.mg X.base k C x (lift CA (pmW sp))) (hr : Room (k + 1) X.A)
    (h : ∀ a dx, dx ≠ a → sp [.raw (.ref a)] (w ++ [InsT C a dx []]) (resS (fun sv w2 => sv = .d .none ∧ O (.raw (.ref a)) w2) Ox)) (hg : Gl X x := by rfl) (hdb : (x == ("__debug__" : Str)) = false := by decide) : EvS X CA (ThW R0) ρ w (.Call (.Name x p) [] [] pos) O Ox := fun F L R H σ g i kk Q Wx tk q qx => by
  obtain ⟨f, fd, ps, fn, hM, hm, hb⟩ := fn.ex
  refine toE (pe_mkS0 hM fn hr hg hm hb (fun τ => passAt tk τ) hdb) ?_
  intro a dx ha hd hne
  refine lift_w (svs := [.raw (.ref a)]) (ok_ins kk ha hd hne) (sep_ins i (kk.r.free ha) (kk.r.free hd) hne) (.cons ⟨rfl, rfl⟩ .nil) (h a dx hne) (fun sv w2 v F2 R2 H2 o2 s2 i2 r2 n2 k2 => ?_) qx
  obtain ⟨e1, o2⟩ := o2
  subst e1
  cases r2
  exact ⟨rfl, q (.raw (.ref a)) w2 (.ref a) F2 R2 H2 o2 s2 i2 rfl rfl k2⟩
end
end G
end

section
set_option Elab.async false
set_option linter.all false
set_option maxRecDepth 100000
set_option maxHeartbeats 4000000
/-! ### dicts over things -/
namespace G
open PySem PySem.Spec PyProof.Rows L2
def keyD : L2.Key → PyData
  | .inl i => .int i
  | .inr x => .str x
theorem rp_key {F : Hp} {v : V} : ∀ {k : L2.Key}, Rp F v (keyD k) → v = kV k
  | .inl i, h => by
    cases h
    rfl
  | .inr x, h => by
    cases h
    rfl
theorem rpA_keys {F : Hp} : ∀ {vs : List V} {ks : List L2.Key}, RpA F vs (ks.map keyD) → vs = ks.map kV
  | _, [], .nil => rfl
  | _, k :: ks, .cons h r => by
    rw [rp_key h, rpA_keys r]
    rfl
/-- a dict stands in the heap, locked by a loop or not -/
def InR (w : List Thing) (a : Addr) (o : HO) : Prop := ∀ F R0 R H, Sep F R0 w R → Same F H → Same R H → Rd H a o
def HasR (t : Thing) (a : Addr) (o : HO) : Prop := ∀ F M, t.P F M → Rd F a o ∨ Rd M a o
theorem rd_same {M H : Hp} {a : Addr} {o : HO} (s : Same M H) (h : Rd M a o) : Rd H a o := by
  rcases h with e | ⟨od, e⟩
  · exact .inl (s _ _ e)
  · exact .inr ⟨od, s _ _ e⟩
theorem inR_of {w : List Thing} {t : Thing} {a : Addr} {o : HO} (i : Nat) (e : w[i]? = some t) (h : HasR t a o) : InR w a o := fun F R0 R H s sf sr => by
  obtain ⟨M, h1, h2⟩ := s.get e
  rcases h F M h1 with q | q
  · exact rd_same sf q
  · exact rd_same sr (rd_same h2 q)
theorem InH.r {w : List Thing} {a : Addr} {o : HO} (h : InH w a o) : InR w a o := fun F R0 R H s sf sr => .inl (h F R0 R H s sf sr)
/-- a dict's answer at a key; a dict with one thing put -/
def DHas (D : HO) (d : PyData) (r : Option V) : Prop := (∃ kvs k, D = .dK kvs ∧ d = keyD k ∧ r = valV kvs k) ∨ ∃ kvs ks, D = .dT kvs ∧ d = .tuple (ks.map keyD) ∧ r = valV kvs ks
def DSet (D : HO) (d : PyData) (v : V) (D' : HO) : Prop := (∃ kvs k, D = .dK kvs ∧ d = keyD k ∧ kvs.length < sizeLine ∧ D' = .dK (putK kvs k v)) ∨ ∃ kvs ks, D = .dT kvs ∧ d = .tuple (ks.map keyD) ∧ kvs.length < sizeLine ∧ D' = .dT (putK kvs ks v)
theorem dget_of {F H : Hp} {a : Addr} {y : V} {d : PyData} {D : HO} {r : Option V} (ry : Rp F y d) (s : Same F H) (h : Rd H a D) (g : DHas D d r) : DGet H a y r := by
  rcases g with ⟨kvs, k, rfl, rfl, rfl⟩ | ⟨kvs, ks, rfl, rfl, rfl⟩
  · exact .inl ⟨kvs, k, h, rp_key ry, rfl⟩
  · cases ry with
    | tup h1 h2 =>
      rw [rpA_keys h2] at h1
      exact .inr ⟨kvs, ks, _, h, rfl, s _ _ h1, rfl⟩
theorem dput_of {F H : Hp} {a : Addr} {y v : V} {d : PyData} {D D' : HO} (ry : Rp F y d) (s : Same F H) (h : H a = some D) (g : DSet D d v D') : DPut H a y v (upd H a D') := by
  rcases g with ⟨kvs, k, rfl, rfl, hl, rfl⟩ | ⟨kvs, ks, rfl, rfl, hl, rfl⟩
  · rw [rp_key ry]
    exact DPut.k h hl
  · cases ry with
    | tup h1 h2 =>
      rw [rpA_keys h2] at h1
      exact DPut.t h (s _ _ h1) hl
section
variable {X : Cx} {CA : Str → Addr} {R0 : Hp} {ρ : Rho} {w : List Thing} {e a b : Expr} {es : List Expr} {pos p apos : Pos} {O : Sv → List Thing → Prop} {OT : Bool → List Thing → Prop} {Ox : Str → List Thing → Prop} {OS : Out (List Thing)}
/-- d[k] -/
theorem es_dget (hu : X.A.units + 1 < cLine) (h : EvS X CA (ThW R0) ρ w a (fun sv w1 => EvS X CA (ThW R0) ρ w1 b (fun sv' w2 => ∃ (q : Addr) (D : HO) (d : PyData) (v : V) (sv2 : Sv), sv = .raw (.ref q) ∧ sv' = .d d ∧ InR w2 q D ∧ DHas D d (some v) ∧ (∀ F R, Sep F R0 w2 R → RpS F no v sv2) ∧ isOwn sv2 = false ∧ O sv2 w2) Ox) Ox)
    (hs : NoSl b := by exact fun _ _ => rfl) : EvS X CA (ThW R0) ρ w (.Subscript a b pos) O Ox := fun F L R H σ g ii k Q Wx tk q qx =>
  toE (pe_dget hu (pe_w a) (pe_w b) hs) (es_two h g ii k tk qx fun x y w2 u v F2 R2 H2 o2 s2 i2 r1 r2 n1 n2 k2 => by
    obtain ⟨qa, D, d, v', sv2, e1, e2, h1, h2, h3, h4, o⟩ := o2
    subst e1 e2
    cases r1
    exact ⟨qa, v', rfl, dget_of r2 k2.f (h1 F2 R0 R2 H2 i2 k2.f k2.r) h2, q sv2 w2 v' F2 R2 H2 o s2 i2 (RpS.anyL h4 (h3 F2 R2 i2)) h4 k2⟩)
/-- k in d -/
theorem est_din (hu : X.A.units + 1 < cLine) (h : EvS X CA (ThW R0) ρ w a (fun sv w1 => EvS X CA (ThW R0) ρ w1 b (fun sv' w2 => ∃ (q : Addr) (D : HO) (d : PyData) (r : Option V), sv = .d d ∧ sv' = .raw (.ref q) ∧ InR w2 q D ∧ DHas D d r ∧ OT r.isSome w2) Ox) Ox)
    (hm : behindInMarks .In b = false := by rfl) : EvST X CA (ThW R0) ρ w (.Compare a [.In] [b] pos) OT Ox := fun F L R H σ g ii k Q Wx tk q qx =>
  toT (pt_cmp (pc_din hu (pe_w a) (pe_w b)) hm) (es_two h g ii k tk qx fun x y w2 u v F2 R2 H2 o2 s2 i2 r1 r2 n1 n2 k2 => by
    obtain ⟨qa, D, d, r, e1, e2, h1, h2, o⟩ := o2
    subst e1 e2
    cases r2
    exact ⟨qa, r, rfl, dget_of r1 k2.f (h1 F2 R0 R2 H2 i2 k2.f k2.r) h2, _, rfl, q _ w2 F2 R2 H2 o s2 i2 k2⟩)
theorem est_dnotin (hu : X.A.units + 1 < cLine) (h : EvS X CA (ThW R0) ρ w a (fun sv w1 => EvS X CA (ThW R0) ρ w1 b (fun sv' w2 => ∃ (q : Addr) (D : HO) (d : PyData) (r : Option V), sv = .d d ∧ sv' = .raw (.ref q) ∧ InR w2 q D ∧ DHas D d r ∧ OT (!r.isSome) w2) Ox) Ox)
    (hm : behindInMarks .NotIn b = false := by rfl) : EvST X CA (ThW R0) ρ w (.Compare a [.NotIn] [b] pos) OT Ox := fun F L R H σ g ii k Q Wx tk q qx =>
  toT (pt_cmp (pc_dnotin hu (pe_w a) (pe_w b)) hm) (es_two h g ii k tk qx fun x y w2 u v F2 R2 H2 o2 s2 i2 r1 r2 n1 n2 k2 => by
    obtain ⟨qa, D, d, r, e1, e2, h1, h2, o⟩ := o2
    subst e1 e2
    cases r2
    exact ⟨qa, r, rfl, dget_of r1 k2.f (h1 F2 R0 R2 H2 i2 k2.f k2.r) h2, _, rfl, q _ w2 F2 R2 H2 o s2 i2 k2⟩)
/-- d[k] = v -/
theorem s_dput {pos' : Pos} (hu : X.A.units + 1 < cLine) (h : EvS X CA (ThW R0) ρ w e (fun sv w1 => EvS X CA (ThW R0) ρ w1 a (fun sv1 w2 => EvS X CA (ThW R0) ρ w2 b (fun sv2 w3 => ∃ (q : Addr) (D : HO) (d : PyData) (i : Nat) (t : Thing), sv1 = .raw (.ref q) ∧ sv2 = .d d ∧ w3[i]? = some t ∧ (∀ F M, t.P F M → M q = some D) ∧
      ∃ u : Thing, (∀ F M v, t.P F M → RpS F no v sv → ∃ D', DSet D d v D' ∧ u.P F (upd M q D')) ∧ OS.nx ρ (w3.set i u)) (fun c w2 => OS.ex c ρ w2)) (fun c w2 => OS.ex c ρ w2)) (fun c w1 => OS.ex c ρ w1))
    (hs : swapsWith e (some (.Subscript a b pos')) pos.line X.env = pure false := by rfl) : S1 X CA (ThW R0) ρ w (.Assign [.Subscript a b pos'] e pos) OS := fun F L R H σ g ii k D Wx tk m => by
  have qx : ToX CA (ThW R0) F L σ (fun c w1 => OS.ex c ρ w1) Wx := fun c w' F' R' H' o s' i' k' => m.ex c ρ w' F' L R' H' σ o s' i' (g.mono s') k'
  refine toS (ps_dput hu (pe_w a) (pe_w b) (pe_w e) hs) (h F L R H σ g ii k _ Wx tk (fun sv w1 v F1 R1 H1 o1 s1 i1 r1 n1 k1 => ?_) qx)
  refine es_two o1 (g.mono s1) i1 k1 tk (qx.same s1) fun x y w3 u z F3 R3 H3 o3 s3 i3 r3 r4 n3 n4 k3 => ?_
  obtain ⟨qa, D', d, i, t, e1, e2, hi, hM, th, hu', o⟩ := o3
  subst e1 e2
  cases r3
  obtain ⟨M, hP, hMR, hU⟩ := Sep.upd i3 hi
  have ha := hM F3 M hP
  have haR := hMR _ _ ha
  obtain ⟨D2, hd, hp⟩ := hu' F3 M v hP (RpS.anyL n1 (r1.mono s3))
  exact ⟨qa, _, rfl, dput_of r4 k3.f (k3.r _ _ haR) hd, m.nx ρ _ F3 L _ _ σ o (s1.trans s3) (hU F3 qa _ th (Same.refl _) (.inl (by rw [ha]; simp)) hp) (g.mono (s1.trans s3)) (k3.setR haR)⟩
/-- a new dict -/
def DicT (a : Addr) (D : HO) : Thing := ⟨fun _ M => M a = some D, fun _ s h => s _ _ h⟩
theorem es_dnewK (h : ∀ q, O (.raw (.ref q)) (w ++ [DicT q (.dK [])])) : EvS X CA (ThW R0) ρ w (.Dict [] [] pos) O Ox := fun F L R H σ g ii k Q Wx tk q qx =>
  toE pe_dnewK fun p hp => q (.raw (.ref p)) _ _ F _ _ (h p) (Same.refl _) (Sep.new ii (k.r.free hp) upd_same) rfl rfl (k.newR hp)
theorem es_dnewT (h : ∀ q, O (.raw (.ref q)) (w ++ [DicT q (.dT [])])) : EvS X CA (ThW R0) ρ w (.Dict [] [] pos) O Ox := fun F L R H σ g ii k Q Wx tk q qx =>
  toE pe_dnewT fun p hp => q (.raw (.ref p)) _ _ F _ _ (h p) (Same.refl _) (Sep.new ii (k.r.free hp) upd_same) rfl rfl (k.newR hp)
/-- d.get(k, x) -/
theorem es_dgetD {c : Expr} (hu : X.A.units + 1 < cLine) (h : EvS X CA (ThW R0) ρ w a (fun sv w1 => ∃ (q : Addr) (D : HO), sv = .raw (.ref q) ∧ InR w1 q D ∧ ((∃ kvs, D = .dK kvs) ∨ ∃ kvs, D = .dT kvs) ∧ EvS X CA (ThW R0) ρ w1 b (fun sv1 w2 => EvS X CA (ThW R0) ρ w2 c (fun sv2 w3 => InR w3 q D ∧ ∃ (d : PyData) (r : Option V),
      sv1 = .d d ∧ DHas D d r ∧ (r = none → O sv2 w3) ∧ ∀ v, r = some v → ∃ sv3, (∀ F R, Sep F R0 w3 R → RpS F no v sv3) ∧ isOwn sv3 = false ∧ O sv3 w3) Ox) Ox) Ox)
    (m : M2 X a "get" apos b c pos := by exact ⟨rfl, rfl, rfl, rfl⟩) : EvS X CA (ThW R0) ρ w (.Call (.Attribute a "get" apos) [b, c] [] pos) O Ox := fun F L R H σ g ii k Q Wx tk q qx =>
  toE (pe_dget2 hu (pe_w a) (pe_w b) (pe_w c) m) (h F L R H σ g ii k _ Wx tk (fun sv w1 v F1 R1 H1 o1 s1 i1 r1 n1 k1 => by
    obtain ⟨qa, D, e1, h1, h2, h3⟩ := o1
    subst e1
    cases r1
    have hD := h1 F1 R0 R1 H1 i1 k1.f k1.r
    refine ⟨qa, rfl, ?_, es_two h3 (g.mono s1) i1 k1 tk (qx.same s1) fun x y w3 u z F3 R3 H3 o3 s3 i3 r3 r4 n3 n4 k3 => ?_⟩
    · rcases h2 with ⟨kvs, rfl⟩ | ⟨kvs, rfl⟩
      · exact .inl ⟨kvs, hD⟩
      · exact .inr ⟨kvs, hD⟩
    · obtain ⟨hI, d, r, e2, hd, hn, hs⟩ := o3
      subst e2
      refine ⟨r, dget_of r3 k3.f (hI F3 R0 R3 H3 i3 k3.f k3.r) hd, ?_⟩
      cases r with
      | none => exact q y w3 z F3 R3 H3 (hn rfl) (s1.trans s3) i3 r4 n4 k3
      | some v' =>
        obtain ⟨sv3, a1, a2, a3⟩ := hs v' rfl
        exact q sv3 w3 v' F3 R3 H3 a3 (s1.trans s3) i3 (RpS.anyL a2 (a1 F3 R3 i3)) a2 k3) qx)
end
end G
end

section
set_option Elab.async false
set_option linter.all false
set_option maxRecDepth 100000
set_option maxHeartbeats 4000000
/-! ### d.keys() as a value; sorted(d.keys()); len(d) -/
namespace G
open PySem PySem.Spec PyProof.Rows L2
def KeysO (p a : Addr) : HO := .ext fun h => PySem.W.KdlKeysView h p a
def tKeysV (td : TE) : TE := fun σ H Q => td σ H fun x H1 => ∃ a kvs, x = .ref a ∧ Rd H1 a (.dK kvs) ∧ ∀ p, H1 p = none → Q (.ref p) (upd H1 p (KeysO p a))
theorem keysO_ok {P : Program} {w : World} {H : Hp} {h : Heap} {p a : Addr} {o : Obj} (e : h.get? p = some o) (hc : o.cls = .type "dict_keys") (hd : o.data = .fields #[.ref a]) : ObjOk P w H h p (KeysO p a) :=
  ⟨⟨o, e, hc, hd⟩, ⟨o, e⟩, fun h1 h2 ⟨o', e1, c1, d1⟩ k => ⟨o', k o' e1, c1, d1⟩⟩
theorem keys_each : ∀ {ks : List L2.Key} {us : List Value}, Vals (ks.map kV) us → PySem.W.EachIs (fun (u : Value) (k : L2.Key) => RelV (kV k) u) us ks
  | [], _, .nil => .nil
  | k :: ks, _, .cons h r => .cons h (keys_each r)
theorem keys_back : ∀ {ks : List L2.Key} {us : List Value}, PySem.W.EachIs (fun (u : Value) (k : L2.Key) => RelV (kV k) u) us ks → Vals (ks.map kV) us
  | _, _, .nil => .nil
  | _, _, .cons h r => .cons h (keys_back r)
theorem reads_key {h : Heap} {u : Value} : ∀ {k : L2.Key}, RelV (kV k) u → Reads h u (keyD k) []
  | .inl i, e => by
    obtain ⟨t, rfl⟩ := e
    exact .int i t
  | .inr x, e => by
    obtain ⟨t, rfl⟩ := e
    exact .str x t
theorem depth_key : ∀ k : L2.Key, (keyD k).depth = 0
  | .inl _ => by simp [keyD, PyData.depth]
  | .inr _ => by simp [keyD, PyData.depth]
theorem rpA_key {F : Hp} : ∀ ks : List L2.Key, RpA F (ks.map kV) (ks.map keyD)
  | [] => .nil
  | .inl i :: ks => .cons (.int i) (rpA_key ks)
  | .inr x :: ks => .cons (.str x) (rpA_key ks)
section
variable {X : Cx} {e : Expr} {td : TE} {apos cpos : Pos}
theorem pe_keysV (he : PE X e td) (hbase : attributeBase e "keys" X.env (eval e X.env) = eval e X.env := by rfl) (hline : (apos.endLine == cpos.line) = true := by rfl) : PE X (.Call (.Attribute e "keys" apos) [] [] cpos) (tKeysV td) := by
  refine ⟨fun pins s σ H Q I h => ?_⟩
  refine wpAny_Call_method (T := "dict") (id := "dict.keys") hbase rfl hline F.plainAttrs_dict F.slot_dict_keys F.type_dict_keys (thn (he.run pins s σ H _ I h) fun u s1 ⟨x, H1, I1, rx, d, kvs, ex, hd, q⟩ => ?_)
  subst ex
  obtain rfl : u = Value.ref d := rx
  obtain ⟨z, lo, vs, rel, dd⟩ := dk_rd I1.hok hd
  refine ⟨dd.typeIs, dd.mapOf.noDict, ?_⟩
  show wpAny _ _ (callWith cpos (.builtin "dict.keys") [.ref d] [] []) _ X.xe s1
  refine method_meetsIn F.slot_dict_keys F.entry_dict_keys rfl (PySem.evalArgs_none ⟨rfl, dd.typeIs, F.args_dict_keys_1 _, _, PySem.W.kdl_meets_keys (mixKind X.prog X.w) d lo, ⟨vs, dd⟩, ?_⟩)
  exact ⟨.ref s1.heap.objs.size, upd H1 s1.heap.objs.size (KeysO s1.heap.objs.size d), I1.laid (t' := s1.toks) (fun _ _ z => Heap.get?_push_of_some _ z) (Nat.le_refl _) (keysO_ok (Heap.get?_push_size _ rfl) rfl rfl), rfl, q _ (I1.hok.fresh (Nat.le_refl _))⟩
/-- sorted(d.keys()), keys that compare: the one arrangement -/
theorem cr_sortKeys (hcalm : X.calm = true) (hu : X.A.units + 100 < cLine) : CallR X (.builtin "sorted") (fun xs H Q => ∃ (p a : Addr) (kvs : List (L2.Key × V)), xs = [.ref p] ∧ H p = some (KeysO p a) ∧ Rd H a (.dK kvs) ∧ PySem.W.AllAlike ((kvs.map (·.1)).map keyD) ∧ PySem.W.Sortable ((kvs.map (·.1)).map keyD) ∧
    ∀ q, H q = none → Q (.ref q) (upd H q (.lst (((kvs.map (·.1)).mergeSort (PySem.W.dataLe false keyD)).map kV)))) := by
  intro pins s σ H xs us Q I r q
  obtain ⟨v, a, kvs, rfl, hp, hd, al, so, q⟩ := q
  rw [Vals.ref1 r]
  obtain ⟨hview, _⟩ := I.hok v _ hp
  obtain ⟨z, lo, vs, rel, dd⟩ := dk_rd I.hok hd
  obtain ⟨ep, hat⟩ := dd.dictAt
  have ekey : kvs.map (·.1) = vs.map (·.1) := rel.keys
  have elen : kvs.length = vs.length := rel.length
  apply Calls.call_function_entry PyProof.Rows.kind_sorted PyProof.Rows.plain_sorted PyProof.Rows.entry_sorted (PyProof.Rows.args_sorted1 _)
  unfold Builtin.«sorted»
  apply wpAny_bind (m := checkCount "sorted" 1 1 _)
  apply wpAny_pure
  apply wpAny_bind
  refine PySem.W.kdu_collect (A := X.A.in1) (PySem.W.kdl_keys (knd := mixKind X.prog X.w) (kvs := vs) (ep := ep) (r := v) (d := a)) (I.ok.hd hcalm) ⟨hview, hat⟩ (by omega) fun h' tk acc keep items => ?_
  have J : Inv X pins σ H { s with heap := h', toks := tk } := I.kept keep
  have hv : Vals ((vs.map (·.1)).map kV) acc.toList := by
    rw [List.map_map]
    exact keys_at (by rw [Array.length_toList]; exact items.1) fun j u e => items.2 j u (by rw [← Array.getElem?_toList]; exact e)
  rw [← ekey] at hv
  have ev : PySem.W.EachIs (fun (u : Value) (k : L2.Key) => RelV (kV k) u) acc.toList (kvs.map (·.1)) := keys_each hv
  have al' : acc.toList.length = kvs.length := by
    have := ev.length
    rw [List.length_map] at this
    exact this
  have hz : acc.toList.length ≤ sizeLine := by omega
  apply wpAny_bind
  refine wpAny_newList ?_ hz
  have hoL : (h'.push (seqObj "list" acc.toList.toArray 0)).get? h'.objs.size = some (seqObj "list" acc.toList.toArray 0) := Heap.get?_push_size _ rfl
  apply wpAny_bind
  apply wpAny_holding
  have er : PySem.W.EachIs (fun (u : Value) (k : L2.Key) => ∃ as, Reads (h'.push (seqObj "list" acc.toList.toArray 0)) u (keyD k) as ∧ h'.objs.size ∉ as) acc.toList (kvs.map (·.1)) := ev.mono fun u k hk => ⟨[], reads_key hk, by simp⟩
  refine PySem.W.list_sort_data (s := { s with heap := h'.push (seqObj "list" acc.toList.toArray 0), toks := tk }) (A := X.A.in1) hoL ev er al so (by rw [List.length_map, ← al']; exact hz) (fun k _ => ?_) fun out ho eo => ?_
  · rw [depth_key]
    show X.A.units + 1 + 1 + 0 < cLine
    omega
  · apply wpAny_pure
    obtain ⟨e', he'⟩ := PyProof.Rows.sortedHeap_at (vs := acc.toList) (out := out.toArray) hoL
    have ro := keys_back eo
    have hlen : (((kvs.map (·.1)).mergeSort (PySem.W.dataLe false keyD)).map kV).length ≤ sizeLine := by
      have := ro.length
      rw [List.length_map] at this ho
      rw [List.length_map, this]
      omega
    refine ⟨_, rfl, .ref h'.objs.size, _, J.laid (t' := tk) (fun b u e => ?_) (Nat.le_refl _) (show ObjOk X.prog X.w _ _ _ (.lst _) from ⟨hlen, out, e', ro, he'⟩), rfl, q _ (J.hok.fresh (Nat.le_refl _))⟩
    have hb : b < h'.objs.size := Heap.lt_size e
    rw [PyProof.Rows.sortedHeap_old (Nat.ne_of_lt hb) (by rw [size_push']; exact Nat.lt_succ_of_lt hb)]
    exact Heap.get?_push_of_some _ e
end
section
variable {X : Cx} {CA : Str → Addr} {R0 : Hp} {ρ : Rho} {w : List Thing} {a : Expr} {pos p apos cpos : Pos} {O : Sv → List Thing → Prop} {Ox : Str → List Thing → Prop}
/-- sorted(d.keys()) -/
theorem es_sortedK (hc : X.calm = true) (hu : X.A.units + 100 < cLine) (hm : X.mg "sorted" = none) (h : EvS X CA (ThW R0) ρ w a (fun sv w1 => ∃ (q : Addr) (kvs : List (L2.Key × V)), sv = .raw (.ref q) ∧ InR w1 q (.dK kvs) ∧ PySem.W.AllAlike ((kvs.map (·.1)).map keyD) ∧ PySem.W.Sortable ((kvs.map (·.1)).map keyD) ∧ O (.d (.list (((kvs.map (·.1)).mergeSort (PySem.W.dataLe false keyD)).map keyD))) w1) Ox)
    (hg : Gl X "sorted" := by rfl) (hbase : attributeBase a "keys" X.env (eval a X.env) = eval a X.env := by rfl) (hline : (apos.endLine == cpos.line) = true := by rfl)
    (hs : starEach [.Call (.Attribute a "keys" apos) [] [] cpos] X.env = (false, eval (.Call (.Attribute a "keys" apos) [] [] cpos) X.env) :: starEach [] X.env := by rfl) (hpl : (backTo pos (starEach [] X.env)).any (·.1) = false := by rfl) :
    EvS X CA (ThW R0) ρ w (.Call (.Name "sorted" p) [.Call (.Attribute a "keys" apos) [] [] cpos] [] pos) O Ox := fun F L R H σ g ii k Q Wx tk q qx =>
  toE (pe_callB (cr_sortKeys hc hu) hg hm (by decide +kernel) (pa_cons (pe_keysV (pe_w a) hbase hline) pa_nil hs) (by decide) (by decide) hs hpl) (h F L R H σ g ii k _ Wx tk (fun sv w1 v F1 R1 H1 o1 s1 i1 r1 n1 k1 => by
    obtain ⟨qa, kvs, e1, h1, h2, h3, o⟩ := o1
    subst e1
    cases r1
    have hD := h1 F1 R0 R1 H1 i1 k1.f k1.r
    refine ⟨qa, kvs, rfl, hD, fun p hp => ⟨p, qa, kvs, rfl, upd_same, rd_same (same_new hp) hD, h2, h3, fun p2 hp2 => ?_⟩⟩
    have k2 := (k1.newF (o := KeysO p qa) hp).newF (o := .lst (((kvs.map (·.1)).mergeSort (PySem.W.dataLe false keyD)).map kV)) hp2
    have s2 : Same F1 (upd (upd F1 p (KeysO p qa)) p2 (.lst (((kvs.map (·.1)).mergeSort (PySem.W.dataLe false keyD)).map kV))) := (same_new (k1.f.free hp)).trans (same_new ((k1.newF (o := KeysO p qa) hp).f.free hp2))
    exact q (.d (.list _)) w1 (.ref p2) _ R1 _ o (s1.trans s2) (Sep.mono s2 i1) (.lst upd_same (rpA_key _)) rfl k2) qx)
end
end G
end

section
set_option Elab.async false
set_option linter.all false
set_option maxRecDepth 100000
set_option maxHeartbeats 4000000
/-! ### len(d); loops over d.keys(), the dict locked -/
namespace G
open PySem PySem.Spec PyProof.Rows L2
section
variable {X : Cx} {CA : Str → Addr} {R0 : Hp} {ρ : Rho} {w : List Thing} {a tg : Expr} {s1 : List Stmt} {pos p apos cpos : Pos} {O : Sv → List Thing → Prop} {Ox : Str → List Thing → Prop} {OS : Out (List Thing)}
theorem es_lenK (hm : X.mg "len" = none) (h : EvS X CA (ThW R0) ρ w a (fun sv w1 => ∃ (q : Addr) (kvs : List (L2.Key × V)), sv = .raw (.ref q) ∧ InH w1 q (.dK kvs) ∧ O (.d (.int (kvs.length : Nat))) w1) Ox)
    (hg : Gl X "len" := by rfl) (hs : starEach [a] X.env = (false, eval a X.env) :: starEach [] X.env := by rfl) (hpl : (backTo pos (starEach [] X.env)).any (·.1) = false := by rfl) : EvS X CA (ThW R0) ρ w (.Call (.Name "len" p) [a] [] pos) O Ox := fun F L R H σ g ii k Q Wx tk q qx =>
  toE (pe_callB call_lenD hg hm PySem.boot_len (pa_cons (pe_w a) pa_nil hs) (by decide) (by decide) hs hpl) (h F L R H σ g ii k _ Wx tk (fun sv w1 v F1 R1 H1 o1 s1 i1 r1 n1 k1 => by
    obtain ⟨qa, kvs, e1, h1, o⟩ := o1
    subst e1
    cases r1
    exact ⟨qa, kvs, rfl, h1 F1 R0 R1 H1 i1 k1.f k1.r, q (.d (.int (kvs.length : Nat))) w1 _ F1 R1 H1 o s1 i1 (.int _) rfl k1⟩) qx)
theorem es_lenT (hm : X.mg "len" = none) (h : EvS X CA (ThW R0) ρ w a (fun sv w1 => ∃ (q : Addr) (kvs : List (List L2.Key × V)), sv = .raw (.ref q) ∧ InH w1 q (.dT kvs) ∧ O (.d (.int (kvs.length : Nat))) w1) Ox)
    (hg : Gl X "len" := by rfl) (hs : starEach [a] X.env = (false, eval a X.env) :: starEach [] X.env := by rfl) (hpl : (backTo pos (starEach [] X.env)).any (·.1) = false := by rfl) : EvS X CA (ThW R0) ρ w (.Call (.Name "len" p) [a] [] pos) O Ox := fun F L R H σ g ii k Q Wx tk q qx =>
  toE (pe_callB call_len_dT hg hm PySem.boot_len (pa_cons (pe_w a) pa_nil hs) (by decide) (by decide) hs hpl) (h F L R H σ g ii k _ Wx tk (fun sv w1 v F1 R1 H1 o1 s1 i1 r1 n1 k1 => by
    obtain ⟨qa, kvs, e1, h1, o⟩ := o1
    subst e1
    cases r1
    exact ⟨qa, kvs, rfl, h1 F1 R0 R1 H1 i1 k1.f k1.r, q (.d (.int (kvs.length : Nat))) w1 _ F1 R1 H1 o s1 i1 (.int _) rfl k1⟩) qx)
/-- how a thing's dict is locked: lk od instead of t, while a loop walks the dict at d -/
structure Lock (t : Thing) (lk : Obj → Thing) (d : Addr) (u : HO) : Prop where
  is : ∀ F M, t.P F M → M d = some u
  lis : ∀ od F M, (lk od).P F M → M d = some (.frz od u)
  lock : ∀ od F M, t.P F M → (lk od).P F (upd M d (.frz od u))
  free : ∀ od F M, (lk od).P F M → t.P F (upd M d u)
theorem set_set_self {w : List Thing} {i : Nat} {t u : Thing} (h : w[i]? = some t) : (w.set i u).set i t = w := by
  rw [List.set_set]
  exact List.ext_getElem? fun j => by
    by_cases e : i = j
    · subst e
      obtain ⟨hi, _⟩ := List.getElem?_eq_some_iff.mp h
      rw [List.getElem?_set_self hi, h]
    · rw [List.getElem?_set_ne e]
theorem s_forK {vs : List Nat} {kvs : List (L2.Key × V)} {t : Thing} {lk : Obj → Thing} {d : Addr} (i : Nat) (hp : PassesOwn (model X.prog X.w) X.A X.env X.xe) (hc : X.calm = true) (hw : w[i]? = some t) (K : Lock t lk d (.dK kvs))
    (ha : ∀ od, EvS X CA (ThW R0) ρ (w.set i (lk od)) a (fun sv w1 => sv = .raw (.ref d) ∧ w1 = w.set i (lk od)) (fun _ _ => False))
    (Pv : Obj → Nat → Rho → List Thing → Prop) (h0 : ∀ od, Pv od 0 ρ (w.set i (lk od))) (hl : ∀ od n ρ' w', Pv od n ρ' w' → w'[i]? = some (lk od))
    (hs : ∀ od (n : Nat) k v ρ' w', kvs[n]? = some (k, v) → Pv od n ρ' w' → ∃ ρ'', TgD X vs tg (keyD k) ρ' ρ'' ∧ SB X CA (ThW R0) ρ'' w' s1
      { nx := Pv od (n + 1), ct := Pv od (n + 1), bk := fun _ _ => False, rt := fun sv w2 => w2[i]? = some (lk od) ∧ OS.rt sv (w2.set i t), ex := fun _ _ _ => False })
    (hd : ∀ od ρ' w', Pv od kvs.length ρ' w' → OS.nx ρ' (w'.set i t))
    (hf : ∀ x, foldedSetIterable (.Call (.Attribute a "keys" apos) [] [] cpos) X.env x = pure x := by intro _; rfl) (hbase : attributeBase a "keys" X.env (eval a X.env) = eval a X.env := by rfl) (hline : (apos.endLine == cpos.line) = true := by rfl) :
    S1 X CA (ThW R0) ρ w (.For tg (.Call (.Attribute a "keys" apos) [] [] cpos) s1 [] pos) OS := fun F L R H σ g ii k D Wx tk m => by
  obtain ⟨M, hP, hMR, hU⟩ := Sep.upd ii hw
  have hdR := hMR _ _ (K.is F M hP)
  refine toS (ps_lock (ps_for hp hc (pi_keysM (pe_w a) hbase hline) (pg_w tg) (pb_w s1) hf)) ⟨d, .dK kvs, k.r _ _ hdR, trivial, fun od => ?_⟩
  have i1 : Sep F R0 (w.set i (lk od)) (upd R d (.frz od (.dK kvs))) := hU F d _ (lk od) (Same.refl _) (.inl (by rw [K.is F M hP]; simp)) (K.lock od F M hP)
  have k1 : Ok F L (upd R d (.frz od (.dK kvs))) (upd H d (.frz od (.dK kvs))) := k.setR hdR
  have opens : ∀ {F2 : Hp} {w2 : List Thing} {L2' R2 H2 : Hp}, w2[i]? = some (lk od) → Sep F2 R0 w2 R2 → Ok F2 L2' R2 H2 → H2 d = some (.frz od (.dK kvs)) ∧ Sep F2 R0 (w2.set i t) (upd R2 d (.dK kvs)) ∧ Ok F2 L2' (upd R2 d (.dK kvs)) (upd H2 d (.dK kvs)) := fun hi hS hk => by
    obtain ⟨M2, hP2, hMR2, hU2⟩ := Sep.upd hS hi
    have hdM := K.lis od _ M2 hP2
    exact ⟨hk.r _ _ (hMR2 _ _ hdM), hU2 _ d _ t (Same.refl _) (.inl (by rw [hdM]; simp)) (K.free od _ M2 hP2), hk.setR (hMR2 _ _ hdM)⟩
  refine ha od F L _ _ σ g i1 k1 _ (fun _ _ _ _ => False) takes0 (fun sv w1 v F1 R1 H1 o1 s1' i1' r1 n1 k1' => ?_) (fun _ _ _ _ _ o => o.elim)
  obtain ⟨e1, e2⟩ := o1
  subst e1 e2
  cases r1
  have hiw : (w.set i (lk od))[i]? = some (lk od) := hl od 0 ρ _ (h0 od)
  have hdH := (opens hiw i1' k1').1
  refine ⟨d, od, kvs, rfl, hdH, ?_⟩
  refine ⟨fun n mm σ' H' => mm = kvs.length - n ∧ n ≤ kvs.length ∧ ∃ F' L' R' ρ' w', Same F1 F' ∧ Pv od n ρ' w' ∧ Sg F' L' σ' ρ' ∧ Sep F' R0 w' R' ∧ Ok F' L' R' H', ⟨kvs.length, by simp, Nat.zero_le _, F1, L, R1, ρ, _, Same.refl _, h0 od, g.mono s1', i1', k1'⟩, ?_⟩
  rintro n mm σ' H' ⟨rfl, hile, F', L', R', ρ', w', sm, pv, g', i', k'⟩
  have hfr := (opens (hl od n ρ' w' pv) i' k').1
  by_cases hlt : n < kvs.length
  · refine .inr ⟨⟨hfr, hlt⟩, fun σ2 H2 => ∃ F' L' R' ρ' w', Same F1 F' ∧ Pv od (n + 1) ρ' w' ∧ Sg F' L' σ2 ρ' ∧ Sep F' R0 w' R' ∧ Ok F' L' R' H2, fun σ2 H2 h => ⟨kvs.length - (n + 1), by omega, rfl, hlt, h⟩, fun x H2 hy => ?_⟩
    obtain ⟨e2, kk, vv, hkv, ex⟩ := hy
    subst e2 ex
    obtain ⟨ρ'', ht, hb⟩ := hs od n kk vv ρ' w' hkv pv
    refine ht F' L' R' H2 σ' (kV kk) g' k' (by cases kk <;> constructor) _ fun σ2 g2 _ => ?_
    refine hb F' L' R' H2 σ2 g2 i' k' _ Wx tk ⟨?_, ?_, ?_, ?_, ?_⟩
    · exact fun ρ3 w3 F3 L3 R3 H3 σ3 o3 s3 i3 g3 k3 => ⟨F3, L3, R3, ρ3, w3, sm.trans s3, o3, g3, i3, k3⟩
    · intro sv w3 v F3 L3 R3 H3 o3 s3 i3 r3 n3 k3
      obtain ⟨a1, a2, a3⟩ := opens o3.1 i3 k3
      exact ⟨a1, m.rt sv _ v F3 L3 _ _ o3.2 ((s1'.trans sm).trans s3) a2 r3 n3 a3⟩
    · exact fun _ _ _ _ _ _ _ _ o3 => o3.elim
    · exact fun _ _ _ _ _ _ _ o3 => o3.elim
    · exact fun ρ3 w3 F3 L3 R3 H3 σ3 o3 s3 i3 g3 k3 => ⟨F3, L3, R3, ρ3, w3, sm.trans s3, o3, g3, i3, k3⟩
  · have ei : n = kvs.length := by omega
    subst ei
    obtain ⟨a1, a2, a3⟩ := opens (hl od _ ρ' w' pv) i' k'
    exact .inl ⟨⟨hfr, Nat.le_refl _⟩, a1, m.nx ρ' _ F' L' _ _ σ' (hd od ρ' w' pv) (s1'.trans sm) a2 g' a3⟩
end
end G
end

section
set_option Elab.async false
set_option linter.all false
set_option maxRecDepth 100000
set_option maxHeartbeats 4000000
/-! ### sets of texts -/
namespace G
open PySem PySem.Spec PyProof.Rows L2 PySem.Froz
/-- the texts of a list, each once -/
def onceIn (acc : List Str) (x : Str) : List Str := if x ∈ acc then acc else x :: acc
def once (xs : List Str) : List Str := xs.foldl onceIn []
theorem once_snoc (xs : List Str) (x : Str) : once (xs ++ [x]) = onceIn (once xs) x := by
  unfold once
  rw [List.foldl_append]
  rfl
theorem onceIn_mem {acc : List Str} {x y : Str} : y ∈ onceIn acc x ↔ y ∈ acc ∨ y = x := by
  unfold onceIn
  by_cases h : x ∈ acc
  · rw [if_pos h]
    exact ⟨.inl, fun z => z.elim id fun e => e ▸ h⟩
  · rw [if_neg h, List.mem_cons]
    exact Or.comm
theorem once_pre : ∀ (xs acc : List Str) (y : Str), y ∈ xs.foldl onceIn acc ↔ y ∈ acc ∨ y ∈ xs
  | [], acc, y => by simp
  | x :: xs, acc, y => by
    rw [List.foldl_cons, once_pre xs, onceIn_mem, List.mem_cons, or_assoc]
theorem once_mem (xs : List Str) (y : Str) : y ∈ once xs ↔ y ∈ xs := by
  unfold once
  rw [once_pre]
  simp
theorem onceIn_len (acc : List Str) (x : Str) : (onceIn acc x).length ≤ acc.length + 1 := by
  unfold onceIn
  split
  · exact Nat.le_succ _
  · exact Nat.le_refl _
theorem once_len : ∀ (xs acc : List Str), (xs.foldl onceIn acc).length ≤ acc.length + xs.length
  | [], acc => Nat.le_refl _
  | x :: xs, acc => by
    rw [List.foldl_cons, List.length_cons]
    have h1 := once_len xs (onceIn acc x)
    have h2 := onceIn_len acc x
    omega
theorem onceIn_nodup {acc : List Str} (x : Str) (h : acc.Nodup) : (onceIn acc x).Nodup := by
  unfold onceIn
  split
  · exact h
  · rename_i z
    exact List.nodup_cons.mpr ⟨z, h⟩
theorem once_nodup0 : ∀ (xs acc : List Str), acc.Nodup → (xs.foldl onceIn acc).Nodup
  | [], acc, h => h
  | x :: xs, acc, h => by
    rw [List.foldl_cons]
    exact once_nodup0 xs _ (onceIn_nodup x h)
theorem once_nodup (xs : List Str) : (once xs).Nodup := once_nodup0 xs [] List.nodup_nil
/-- at a stands a set of the texts l; it can be walked -/
def TxAt (P : Program) (w : World) (h : Heap) (a : Addr) (l : List Str) : Prop := ∃ D : SD, h.get? a = some (sObj "set" D) ∧ TxOk P w D l ∧ Ris D.2.2.place.toList ∧ (w.params.followText "set-order" = true ∨ D.2.2.led = true)
section
variable {P : Program} {w : World} {A : Around} {E : Value → Shared → Prop} {s : Shared} {a : Addr} {l : List Str} {h h' : Heap}
theorem TxAt.to (t : TxAt P w h a l) (k : ∀ o, h.get? a = some o → h'.get? a = some o) : TxAt P w h' a l := by
  obtain ⟨D, e, r⟩ := t
  exact ⟨D, k _ e, r⟩
theorem tail_ris {ep : Nat} {es : Array (Int × Value)} {t : SetTable} {b : Bool} (r : Ris t.place.toList) : Ris (tailTx ep es t b).2.2.place.toList ∧ (tailTx ep es t b).2.2.led = t.led := by
  unfold tailTx
  split
  · exact ⟨relayAll_ris _ _ _, relayAll_led _ _ _⟩
  · exact ⟨r, rfl⟩
theorem add_ris {D : SD} {i : Int} {v : Value} (r : Ris D.2.2.place.toList) : Ris (addTx i v D).2.2.place.toList ∧ (addTx i v D).2.2.led = D.2.2.led := by
  have h1 := layNew_ris D.2.2 D.1 i v r
  have h2 := layNew_led D.2.2 D.1 i v
  unfold addTx
  have h3 : Ris (if (layNew D.2.2 D.1 i v).2.1.plain = true then { (layNew D.2.2 D.1 i v).2.1 with plain := false } else (layNew D.2.2 D.1 i v).2.1).place.toList := by
    split <;> exact h1
  have h4 : (if (layNew D.2.2 D.1 i v).2.1.plain = true then { (layNew D.2.2 D.1 i v).2.1 with plain := false } else (layNew D.2.2 D.1 i v).2.1).led = D.2.2.led := by
    split <;> exact h2
  obtain ⟨h5, h6⟩ := tail_ris (ep := D.2.1) (es := (layNew D.2.2 D.1 i v).1) (b := (layNew D.2.2 D.1 i v).2.2.1) h3
  exact ⟨h5, h6.trans h4⟩
/-- a text that is there already -/
theorem add_there {D : SD} {k : Str} {u : Tok} {Q : Bool → Shared → Prop} (ho : s.heap.get? a = some (sObj "set" D)) (F : TxOk P w D l) (hk : k ∈ l) (hb : l.length < scanBound) (q : Q false s) : wpAny (model P w) A (setAddHashed a (.str k u) (hashStr w k)) Q E s := by
  obtain ⟨es, ep, t⟩ := D
  have hf : t.fits es.size = true := F.fit
  have hel : ElemsOf (strKind P w) es.toList := F.el
  have hb0 : es.size < scanBound := by
    have : es.size = l.length := F.sz
    omega
  unfold setAddHashed setAddHashedIn
  apply wpAny_holding
  apply wpAny_bind
  refine wpAny_setState_of ho rfl hf ?_
  dsimp only
  rw [byScan_of rfl hb0 hel]
  simp only [↓reduceIte]
  unfold setAddByScan
  apply wpAny_bind
  apply wpAny_bind
  apply wpAny_rule
  apply wpAny_bind
  refine wpAny_setScan_of (knd := strKind P w) (k := k) (is_str k u) ho rfl hf hel ?_
  cases hi : List.findIdx? (fun e => (strKind P w).is k e.2) es.toList with
  | none =>
    obtain ⟨e, he, z⟩ := (F.mem k).mp hk
    have c := List.findIdx?_eq_none_iff.mp hi e he
    rw [z] at c
    cases c
  | some j =>
    dsimp only
    exact wpAny_pure (wpAny_pure q)
theorem tx_add {k : Str} {u : Tok} {Q : Bool → Shared → Prop} (t : TxAt P w s.heap a l) (hb : l.length + 1 < scanBound) (q : ∀ b h', Heap.SameBut a s.heap h' → TxAt P w h' a (onceIn l k) → Q b { s with heap := h' }) : wpAny (model P w) A (setAddHashed a (.str k u) (hashStr w k)) Q E s := by
  obtain ⟨D, ho, F, hr, hl⟩ := t
  by_cases hk : k ∈ l
  · have e : onceIn l k = l := if_pos hk
    exact add_there ho F hk (by omega) (q false s.heap (Heap.SameBut.refl a s.heap) (by rw [e]; exact ⟨D, ho, F, hr, hl⟩))
  · have e : onceIn l k = k :: l := if_neg hk
    refine add_x ho F hk hb (q true _ (Heap.SameBut.update s.heap a _) ?_)
    rw [e]
    obtain ⟨r1, r2⟩ := add_ris (i := hashStr w k) (v := .str k u) hr
    exact ⟨_, get_upd _ ho rfl, add_ok u F, r1, hl.imp id fun z => by rw [r2]; exact z⟩
theorem tx_fresh (o : h.get? a = some { cls := .type "set", dict := none, data := .set #[] 0 (.fresh 0 0 (!w.params.followText "set-order")) }) : TxAt P w h a [] := by
  refine ⟨(#[], 0, .fresh 0 0 (!w.params.followText "set-order")), o, TxOk.nil rfl, List.Pairwise.nil, ?_⟩
  show _ ∨ (!w.params.followText "set-order") = true
  cases w.params.followText "set-order"
  · exact .inr rfl
  · exact .inl rfl
/-- the loop that fills the set -/
theorem tx_fill {J : Addr} {fp wr : List Addr} {Gs : Array GenState → Array GenState → Prop} {n : Nat} {Pv : Nat → Value → Prop} {St : Nat → Shared → Prop} {R : Result → Shared → Prop} (W : WalksS P w A.in1 J fp wr Gs n Pv St) (Z : Addr) (hZ : Z ∉ fp) (xs : List Str) (hn : n = xs.length) (hb : xs.length + 1 < scanBound)
    (hv : ∀ i v, Pv i v → ∃ x u, xs[i]? = some x ∧ v = .str x u) : ∀ (m i : Nat) (s : Shared), n - i = m → i ≤ n → St i s → TxAt P w s.heap Z (once (xs.take i)) →
      (∀ s', Moved (Z :: wr) Gs s s' → TxAt P w s'.heap Z (once xs) → R (.ok (.ret .none)) s') → codeAny (model P w) A (.builtin "set.update.loop" ⟨[.ref Z, .ref J], []⟩) R s := by
  have nw : Z ∉ wr := fun z => hZ (W.sub _ z)
  have up : ∀ b ∈ wr, b ∈ Z :: wr := fun b z => List.mem_cons_of_mem _ z
  intro m
  induction m with
  | zero =>
    intro i s hm hi hst hS hR
    obtain rfl : i = n := by omega
    apply codeAny_builtin F.entry_set_update_loop
    rw [Around.under_plainId F.plain_set_update_loop _]
    show wpAny _ A.in1 (pyNext (.ref J) >>= _) _ _ s
    apply wpAny_bind
    refine W.done s _ _ hst fun s' hm => ?_
    show wpAny _ A.in1 (ret Value.none) _ _ s'
    rw [List.take_of_length_le (by omega)] at hS
    exact wpAny_pure (hR s' (hm.mono up) (hS.to fun o z => hm.heap Z o nw z))
  | succ m ih =>
    intro i s hm hi hst hS hR
    have lt : i < n := by omega
    apply codeAny_builtin F.entry_set_update_loop
    rw [Around.under_plainId F.plain_set_update_loop _]
    show wpAny _ A.in1 (pyNext (.ref J) >>= _) _ _ s
    apply wpAny_bind
    refine W.item i s _ _ lt hst fun v s1 hp hst1 mv => ?_
    obtain ⟨x, u, hx, rfl⟩ := hv i v hp
    have hS1 := hS.to fun o z => mv.heap Z o nw z
    show wpAny _ A.in1 (holding [Value.str x u] (setAdd Z (.str x u)) >>= _) _ _ s1
    apply wpAny_bind
    apply wpAny_holding
    unfold setAdd
    apply wpAny_holding
    apply wpAny_bind
    refine (strKind P w).pyHash (k := x) (is_str x u) ?_
    have hlen : (once (xs.take i)).length + 1 < scanBound := by
      have z := once_len (xs.take i) []
      rw [List.length_take, List.length_nil] at z
      have : (once (xs.take i)).length ≤ xs.length := by
        unfold once
        omega
      omega
    refine tx_add (s := { s1 with toks := s1.toks + 1 }) hS1 hlen fun b h2 sb hS2 => ?_
    have hS3 : TxAt P w h2 Z (once (xs.take (i + 1))) := by
      rw [List.take_add_one, hx]
      show TxAt P w h2 Z (once (xs.take i ++ [x]))
      rw [once_snoc]
      exact hS2
    refine wpAny_pure ⟨plainId_quiet F.plain_set_update_loop _, ih (i + 1) _ (by omega) lt (W.frame _ s1 _ _ hst1 (Nat.le_succ _) fun b z o e => ?_) hS3 fun s2 mv2 hS4 => ?_⟩
    · rw [sb.2 b fun q : b = Z => hZ (q ▸ z)]
      exact e
    · refine hR s2 (Moved.trans W.gtrans ((mv.mono up).then_heap (Nat.le_succ _) fun b o z e => ?_) mv2) hS4
      rw [sb.2 b fun q : b = Z => z (q ▸ List.mem_cons_self)]
      exact e
end
end G
end

section
set_option Elab.async false
set_option linter.all false
set_option maxRecDepth 100000
set_option maxHeartbeats 4000000
/-! ### set(xs), xs a list of texts; sorted(set(xs)); len(set(xs)) -/
namespace G
open PySem PySem.Spec PyProof.Rows L2 PySem.Froz
abbrev set0 (w : World) : Obj := { cls := .type "set", dict := none, data := .set #[] 0 (.fresh 0 0 (!w.params.followText "set-order")) }
section
variable {P : Program} {w : World} {A : Around} {E : Value → Shared → Prop} {s : Shared}
theorem tx_set {l : Addr} {its : Array Value} (xs : List Str) {Q : Value → Shared → Prop} (hh : A.handled = none) (hl : s.heap.IsList l its) (hi : StrsAre its.toList xs) (hb : xs.length + 1 < scanBound)
    (q : ∀ (h' : Heap) (tk : Nat), TxAt P w h' s.heap.objs.size (once xs) → (∀ b o, s.heap.get? b = some o → h'.get? b = some o) → Q (.ref s.heap.objs.size) { s with heap := h', toks := tk }) : wpAny (model P w) A (call (.type "set") [.ref l]) Q E s := by
  have hz : its.size = xs.length := by
    have z := StrsAre.len_eq hi
    rw [Array.length_toList] at z
    exact z
  obtain ⟨_, _, hmro⟩ := F.called_set.mro
  have hmade := F.called_set.made
  have hsub := F.called_set.sub
  apply wpAny_call
  apply codeAny_of_tree
  show wpAny _ _ (callAny (.type "set") _) _ _ _
  refine wpAny_pure ⟨Code.quiet_builtin _ (by decide +kernel), ?_⟩
  apply codeAny_builtin F.entry_type_call
  rw [Around.under_plain (weight_type_call_type "set" [.ref l] []) rfl]
  have z1 := F.called_set.notType
  have z2 := F.called_set.canCreate
  have z3 := F.typeCall_set_1 (.ref l)
  repeat (any_goals (first | assumption | wp_step))
  refine codeAny_mono (code_set_led1 (.ref l) (E := E) (Q₁ := fun v s1 => v = .ref s.heap.objs.size ∧ s1 = { s with heap := s.heap.push (set0 w) }) ⟨rfl, rfl⟩) fun r s1 hr => ?_
  cases r with
  | error e => exact hr
  | ok fl =>
    cases fl with
    | next => exact hr.elim
    | brk => exact hr.elim
    | cont => exact hr.elim
    | ret ob =>
      obtain ⟨rfl, rfl⟩ := hr
      have hS : (s.heap.push (set0 w)).get? s.heap.objs.size = some (set0 w) := Heap.get?_push_size _ rfl
      have hT : Shared.TypeIs { s with heap := s.heap.push (set0 w) } (.ref s.heap.objs.size) "set" := ⟨_, hS, rfl⟩
      have z4 := F.called_set.init.lookup
      have z5 := F.called_set.init.bind (.ref s.heap.objs.size)
      repeat (any_goals (first | assumption | wp_step))
      refine codeAny_mono (codeAny_call_builtin (R := wants (fun r s2 => r = .none ∧ ∃ h' tk, s2 = { s with heap := h', toks := tk } ∧ TxAt P w h' s.heap.objs.size (once xs) ∧ (∀ b o, s.heap.get? b = some o → h'.get? b = some o)) E) F.called_set.init.plain F.entry_set_init (check_set_init_1 hT ?_)) fun r2 s2 hr2 => ?_
      · obtain ⟨⟨oc, od, oda, osl⟩, hol, hcl, nl, hdl⟩ := hl
        simp only at hcl hdl
        subst hcl hdl
        have hol' : (s.heap.push (set0 w)).get? l = some { cls := .type "list", dict := od, data := .seq its nl, slots := osl } := Heap.get?_push_of_some _ hol
        have z6 := F.sub_list_set
        have z7 := F.sub_list_frozenset
        have z8 : (Value.type "list" == Value.type "dict") = false := by decide
        have hl1 : (s.heap.push (set0 w)).IsList l its := ⟨_, hol', rfl, nl, rfl⟩
        unfold Builtin.«set.__init__» noKeywords Builtin.Frozenset.updateFrom
        generalize hPI : pyIter = PI
        wp_walk
        subst hPI
        apply wpAny_pyIter_list hl1
        apply wpAny_bind
        apply wpAny_runValue
        have lS : l < s.heap.objs.size := Heap.lt_size hol
        have hh3 : A.in1.in1.in1.handled = none := by simp [hh]
        have ez : (s.heap.push (set0 w)).objs.size = s.heap.objs.size + 1 := Heap.size_push ..
        have ne1 : l ≠ (s.heap.push (set0 w)).objs.size := by
          rw [ez]
          exact Nat.ne_of_lt (Nat.lt_succ_of_lt lS)
        have ne2 : s.heap.objs.size ∉ [(s.heap.push (set0 w)).objs.size, l] := by
          intro z
          rcases List.mem_cons.mp z with z | z
          · rw [ez] at z
            exact Nat.ne_of_lt (Nat.lt_succ_self _) z
          · exact Nat.ne_of_gt lS (List.mem_singleton.mp z)
        have hv : ∀ (i : Nat) (v : Value), its[i]? = some v → ∃ x u, xs[i]? = some x ∧ v = .str x u := fun i v hi' => by
          have lt : i < xs.length := by
            rw [← hz]
            exact (Array.getElem?_eq_some_iff.mp hi').1
          obtain ⟨u, e⟩ := SS.strs_at hi i v (by rw [Array.getElem?_toList]; exact hi')
          refine ⟨xs[i], u, List.getElem?_eq_getElem lt, ?_⟩
          rw [e, List.getD_eq_getElem?_getD, List.getElem?_eq_getElem lt]
          rfl
        refine tx_fill ((Walks.list hh3 _ l ne1 its).toS) s.heap.objs.size ne2 xs hz hb hv (its.size - 0) 0 _ (by omega) (Nat.zero_le _) ⟨⟨_, Heap.get?_push_size _ rfl, rfl, rfl⟩, hl1.push _⟩ ?_ ?_
        · exact tx_fresh (Heap.get?_push_of_some _ hS)
        · rintro ⟨h', g2, d2, tk2, os2⟩ mv hS2
          obtain rfl : g2 = s.gens := mv.gens
          obtain rfl : d2 = s.drawn := mv.drawn
          obtain rfl : os2 = s.os := mv.os
          show wpAny _ _ _ _ _ _
          apply wpAny_pure
          show wpAny _ _ (ret Value.none) _ _ _
          refine wpAny_pure ⟨rfl, h', tk2, rfl, hS2, fun b o e => ?_⟩
          have lb : b < s.heap.objs.size := Heap.lt_size e
          refine mv.heap b o (fun z => ?_) (Heap.get?_push_of_some _ (Heap.get?_push_of_some _ e))
          rcases List.mem_cons.mp z with z | z
          · exact Nat.ne_of_lt lb z
          · have z := List.mem_singleton.mp z
            rw [ez] at z
            exact Nat.ne_of_lt (Nat.lt_succ_of_lt lb) z
      · cases r2 with
        | error e => exact hr2
        | ok fl2 =>
          cases fl2 with
          | next => exact hr2.elim
          | brk => exact hr2.elim
          | cont => exact hr2.elim
          | ret r =>
            obtain ⟨rfl, h', tk, rfl, hS2, hk⟩ := hr2
            repeat (any_goals (first | assumption | wp_step))
            exact q _ _ hS2 hk
/-- all that a set of texts gives, in some order -/
theorem tx_collect {a : Addr} {l : List Str} {Q : List Value → Shared → Prop} (t : TxAt P w s.heap a l) (hn : l.Nodup) (hb : l.length < scanBound) (hh : A.handled = none)
    (q : ∀ s' out ts, (∀ b o, s.heap.get? b = some o → s'.heap.get? b = some o) → s.heap.objs.size ≤ s'.heap.objs.size → s'.gens = s.gens → s'.os = s.os → StrsAre out ts → ts.length = l.length → (∀ x, x ∈ ts ↔ x ∈ l) → Q out s') : wpAny (model P w) A (collect (.ref a)) Q E s := by
  obtain ⟨⟨es, ep, t⟩, ho, F, hr, hl⟩ := t
  have sz : es.size = l.length := F.sz
  refine collect_set hh ⟨_, ho, rfl, rfl⟩ F.fit (by rw [sz]; exact hb) hr hl fun s' out k z g o pm => ?_
  have key : ∀ vs : List Value, (∀ v ∈ vs, ∃ e ∈ es.toList, v = e.2) → ∃ ts, StrsAre vs ts ∧ ∀ x, x ∈ ts ↔ ∃ u, Value.str x u ∈ vs := by
    intro vs
    induction vs with
    | nil => exact fun _ => ⟨[], .nil, fun x => by simp⟩
    | cons v vs ih =>
      intro h
      obtain ⟨ts, h1, h2⟩ := ih fun y hy => h y (List.mem_cons_of_mem _ hy)
      obtain ⟨e, he, rfl⟩ := h v List.mem_cons_self
      obtain ⟨⟨k, ik, _⟩, _⟩ := F.el e he
      have ik : Value.isStrOf k e.2 = true := ik
      obtain ⟨u, eu⟩ : ∃ u, e.2 = .str k u := by
        cases q : e.2 with
        | str y u =>
          rw [q] at ik
          have : y = k := by simpa [Value.isStrOf] using ik
          exact ⟨u, by rw [this]⟩
        | _ =>
          rw [q] at ik
          simp [Value.isStrOf] at ik
      refine ⟨k :: ts, by rw [eu]; exact .cons k u h1, fun x => ?_⟩
      rw [List.mem_cons, h2, eu]
      constructor
      · rintro (rfl | ⟨u', hu⟩)
        · exact ⟨u, List.mem_cons_self⟩
        · exact ⟨u', List.mem_cons_of_mem _ hu⟩
      · rintro ⟨u', hu⟩
        rcases List.mem_cons.mp hu with z | z
        · cases z
          exact .inl rfl
        · exact .inr ⟨u', z⟩
  obtain ⟨ts, h1, h2⟩ := key out fun v hv => by
    obtain ⟨e, he, z⟩ := List.mem_map.mp (pm.mem_iff.mp hv)
    exact ⟨e, he, z.symm⟩
  refine q s' out ts k z g o h1 ?_ fun x => ?_
  · rw [← StrsAre.len_eq h1, pm.length_eq, List.length_map, Array.length_toList, sz]
  · rw [h2, F.mem x]
    constructor
    · rintro ⟨u, hu⟩
      obtain ⟨e, he, z⟩ := List.mem_map.mp (pm.mem_iff.mp hu)
      exact ⟨e, he, by rw [z]; exact is_str x u⟩
    · rintro ⟨e, he, z⟩
      have z : Value.isStrOf x e.2 = true := z
      cases q : e.2 with
      | str y u =>
        rw [q] at z
        have : y = x := by simpa [Value.isStrOf] using z
        refine ⟨u, pm.mem_iff.mpr (List.mem_map.mpr ⟨e, he, by rw [q, this]⟩)⟩
      | _ =>
        rw [q] at z
        simp [Value.isStrOf] at z
end
def TxO (P : Program) (w : World) (a : Addr) (l : List Str) : HO := .ext fun h => TxAt P w h a l
theorem txO_new {P : Program} {w : World} {H : Hp} {h : Heap} {a : Addr} {l : List Str} (t : TxAt P w h a l) : ObjOk P w H h a (TxO P w a l) := by
  refine ⟨t, ?_, fun h1 h2 r k => r.to k⟩
  obtain ⟨D, e, _⟩ := t
  exact ⟨_, e⟩
section
variable {X : Cx}
def rSetS (K : PySem.W.Frag) (P : Program) (w : World) : List V → Hp → VK → Prop := fun vs H Q => ∃ (l : Addr) (xs : List Str), vs = [.ref l] ∧ SqL K H l (xs.map V.str) ∧ xs.length < 1000 ∧ ∀ a, H a = none → Q (.ref a) (upd H a (TxO P w a (once xs)))
theorem cr_setS (hc : X.calm = true) : CallR X (.type "set") (rSetS X.K X.prog X.w) := by
  intro pins s σ H vs us Q I r q
  obtain ⟨l, xs, rfl, hl, hb, q⟩ := q
  rw [Vals.ref1 r]
  obtain ⟨its, rv, pl, hz⟩ := I.list hl
  refine tx_set xs (I.ok.hd hc) pl.isList (by simpa using strsAre_of rv) (by unfold scanBound; omega) fun h' tk t k => ?_
  exact ⟨.ref s.heap.objs.size, upd H s.heap.objs.size (TxO X.prog X.w s.heap.objs.size (once xs)), I.laid (t' := tk) k (Nat.le_refl _) (txO_new t), rfl, q _ (I.hok.fresh (Nat.le_refl _))⟩
end
end G
end

section
set_option Elab.async false
set_option linter.all false
set_option maxRecDepth 100000
set_option maxHeartbeats 4000000
namespace G
open PySem PySem.Spec PyProof.Rows L2 PySem.Froz
theorem strs_each : ∀ {us : List Value} {xs : List Str}, StrsAre us xs → PySem.W.EachIs (fun (u : Value) (x : Str) => RelV (.str x) u) us xs
  | _, _, .nil => .nil
  | _, _, .cons x t r => .cons ⟨t, rfl⟩ (strs_each r)
theorem strs_vals : ∀ {us : List Value} {xs : List Str}, PySem.W.EachIs (fun (u : Value) (x : Str) => RelV (.str x) u) us xs → Vals (xs.map V.str) us
  | _, _, .nil => .nil
  | _, _, .cons h r => .cons h (strs_vals r)
theorem depth_str (x : Str) : (PyData.str x).depth = 0 := by simp [PyData.depth]
theorem strs_alike (xs : List Str) : PySem.W.AllAlike (xs.map PyData.str) := by
  intro d hd e he
  obtain ⟨x, _, rfl⟩ := List.mem_map.mp hd
  obtain ⟨y, _, rfl⟩ := List.mem_map.mp he
  rfl
theorem strs_sortable (xs : List Str) : PySem.W.Sortable (xs.map PyData.str) := by
  refine .inr fun d hd => ?_
  obtain ⟨x, _, rfl⟩ := List.mem_map.mp hd
  exact ⟨fun z => (by cases z), fun ys z => (by cases z)⟩
theorem rpA_strs {F : Hp} : ∀ xs : List Str, RpA F (xs.map V.str) (xs.map PyData.str)
  | [] => .nil
  | x :: xs => .cons (.str x) (rpA_strs xs)
section
variable {X : Cx}
def rSortS (P : Program) (w : World) : List V → Hp → VK → Prop := fun vs H Q => ∃ (a : Addr) (l : List Str), vs = [.ref a] ∧ H a = some (TxO P w a l) ∧ l.Nodup ∧ l.length < 1000 ∧ ∀ (ts : List Str) (p : Addr), (∀ x, x ∈ ts ↔ x ∈ l) → ts.length = l.length → H p = none → Q (.ref p) (upd H p (.lst (ts.map V.str)))
theorem cr_sortS (hc : X.calm = true) (hu : X.A.units + 100 < cLine) : CallR X (.builtin "sorted") (rSortS X.prog X.w) := by
  intro pins s σ H vs us Q I r q
  obtain ⟨a, l, rfl, ha, nd, hb, q⟩ := q
  rw [Vals.ref1 r]
  obtain ⟨t, _⟩ := I.hok a _ ha
  have t : TxAt X.prog X.w s.heap a l := t
  apply Calls.call_function_entry PyProof.Rows.kind_sorted PyProof.Rows.plain_sorted PyProof.Rows.entry_sorted (PyProof.Rows.args_sorted1 _)
  unfold Builtin.«sorted»
  apply wpAny_bind (m := checkCount "sorted" 1 1 _)
  apply wpAny_pure
  apply wpAny_bind
  refine tx_collect (A := X.A.in1) t nd (by unfold scanBound; omega) (I.ok.hd hc) fun s1 out ts k1 z1 g1 o1 ss hl hm => ?_
  have lo : out.length = ts.length := StrsAre.len_eq ss
  apply wpAny_bind
  refine wpAny_newList ?_ (by rw [lo, hl, sizeLine_eq]; omega)
  have hoL : (s1.heap.push (seqObj "list" out.toArray 0)).get? s1.heap.objs.size = some (seqObj "list" out.toArray 0) := Heap.get?_push_size _ rfl
  apply wpAny_bind
  apply wpAny_holding
  have ev := strs_each ss
  have er : PySem.W.EachIs (fun (u : Value) (x : Str) => ∃ as, Reads (s1.heap.push (seqObj "list" out.toArray 0)) u (PyData.str x) as ∧ s1.heap.objs.size ∉ as) out ts := ev.mono fun u x hx => by
    obtain ⟨tk, rfl⟩ := hx
    exact ⟨[], .str x tk, by simp⟩
  refine PySem.W.list_sort_data (s := { s1 with heap := s1.heap.push (seqObj "list" out.toArray 0) }) (A := X.A.in1) hoL ev er (strs_alike ts) (strs_sortable ts) (by rw [hl, sizeLine_eq]; omega) (fun k _ => ?_) fun o2 ho eo => ?_
  · rw [depth_str]
    show X.A.units + 1 + 1 + 0 < cLine
    omega
  · apply wpAny_pure
    obtain ⟨e', he'⟩ := PyProof.Rows.sortedHeap_at (vs := out) (out := o2.toArray) hoL
    have ro := strs_vals eo
    have pm : (ts.mergeSort (PySem.W.dataLe false PyData.str)).Perm ts := List.mergeSort_perm _ _
    have hn : H s1.heap.objs.size = none := I.hok.fresh z1
    have hk : ∀ b u, s.heap.get? b = some u → (PyProof.Rows.sortedHeap (s1.heap.push (seqObj "list" out.toArray 0)) s1.heap.objs.size out o2.toArray).get? b = some u := fun b u e => by
      have e2 := k1 b u e
      have lt := Heap.lt_size e2
      rw [PyProof.Rows.sortedHeap_old (Nat.ne_of_lt lt) (by rw [size_push']; exact Nat.lt_succ_of_lt lt)]
      exact Heap.get?_push_of_some _ e2
    have hlen : ((ts.mergeSort (PySem.W.dataLe false PyData.str)).map V.str).length ≤ sizeLine := by
      rw [List.length_map, pm.length_eq, hl, sizeLine_eq]
      omega
    have J : Inv X pins σ (upd H s1.heap.objs.size (.lst ((ts.mergeSort (PySem.W.dataLe false PyData.str)).map V.str))) { s with heap := PyProof.Rows.sortedHeap (s1.heap.push (seqObj "list" out.toArray 0)) s1.heap.objs.size out o2.toArray, gens := s1.gens, drawn := s1.drawn, toks := s1.toks } :=
      I.call (ch := []) (Un.laid hk z1 hn) (I.hok.laid hk z1 ⟨hlen, o2, e', ro, he'⟩) (by rw [g1]; exact I.bare) (fun _ z => nomatch z)
    refine ⟨_, rfl, .ref s1.heap.objs.size, _, ?_, rfl, q (ts.mergeSort (PySem.W.dataLe false PyData.str)) s1.heap.objs.size (fun x => ?_) ?_ hn⟩
    · have e : ∀ h : Heap, ({ s1 with heap := h } : Shared) = { s with heap := h, gens := s1.gens, drawn := s1.drawn, toks := s1.toks } := fun h => by
        cases s1
        cases s
        cases o1
        rfl
      have e2 := e (PyProof.Rows.sortedHeap (s1.heap.push (seqObj "list" out.toArray 0)) s1.heap.objs.size out o2.toArray)
      rw [← e2] at J
      exact J
    · rw [pm.mem_iff, hm]
    · rw [pm.length_eq, hl]
def rLenS (P : Program) (w : World) : List V → Hp → VK → Prop := fun vs H Q => ∃ (a : Addr) (l : List Str), vs = [.ref a] ∧ H a = some (TxO P w a l) ∧ l.length < 1000 ∧ Q (.int l.length) H
theorem cr_lenS : CallR X (.builtin "len") (rLenS X.prog X.w) := by
  intro pins s σ H vs us Q I r q
  obtain ⟨a, l, rfl, ha, hb, q⟩ := q
  rw [Vals.ref1 r]
  obtain ⟨t, _⟩ := I.hok a _ ha
  obtain ⟨⟨es, ep, t⟩, ho, F, _⟩ := (t : TxAt X.prog X.w s.heap a l)
  have sz : es.size = l.length := F.sz
  exact call_len_set ho ⟨rfl, rfl, rfl⟩ rfl F.fit (by show (es.size : Int) < 2 ^ 63; omega) ⟨.int l.length, H, I.tok _, ⟨_, by rw [sz]⟩, q⟩
/-! as expressions -/
variable {Ω : Om} {ρ : Rho} {e : Expr} {p p2 pos pos2 : Pos} {CA : Str → Addr} {Y : Wd} {w : Y.W} {O : Sv → Y.W → Prop} {Ox : Str → Y.W → Prop}
/-- sorted(set(e)): the texts, in some order -/
theorem es_sortedSet {xs : List Str} (hc : X.calm = true) (hu : X.A.units + 100 < cLine) (hm : X.mg "sorted" = none) (hm2 : X.mg "set" = none) (he : Ev X (Y.om w) ρ e (.list (xs.map PyData.str))) (hl : xs.length < 1000)
    (o : ∀ ts : List Str, (∀ x, x ∈ ts ↔ x ∈ xs) → ts.length ≤ xs.length → O (.d (.list (ts.map PyData.str))) w)
    (hg : Gl X "sorted" := by rfl) (hg2 : Gl X "set" := by rfl) (hs : starEach [e] X.env = (false, eval e X.env) :: starEach [] X.env := by rfl) (hpl : (backTo pos2 (starEach [] X.env)).any (·.1) = false := by rfl)
    (hs2 : starEach [.Call (.Name "set" p2) [e] [] pos2] X.env = (false, eval (.Call (.Name "set" p2) [e] [] pos2) X.env) :: starEach [] X.env := by rfl) (hpl2 : (backTo pos (starEach [] X.env)).any (·.1) = false := by rfl) :
    EvS X CA Y ρ w (.Call (.Name "sorted" p) [.Call (.Name "set" p2) [e] [] pos2] [] pos) O Ox := fun F L R H σ g ii k Q Wx tk q qx =>
  toE (pe_callB (cr_sortS hc hu) hg hm (by decide +kernel) (pa_cons (pe_callTy (cr_setS hc) hg2 hm2 PyProof.Rows.boot_set (pa_cons (pe_w e) pa_nil hs) (by decide) (by decide) hs hpl) pa_nil hs2) (by decide) (by decide) hs2 hpl2) (he F L R H σ g ii k _ fun v F1 R1 H1 s1 i1 k1 r1 => by
    cases r1 with
    | lst h1 r1 =>
      rw [r1.strs] at h1
      refine ⟨_, xs, rfl, SqL.of (k1.f _ _ h1), hl, fun a ha => ⟨a, once xs, rfl, upd_same, once_nodup xs, ?_, fun ts b hm hlen hb => ?_⟩⟩
      · have := once_len xs []
        unfold once
        rw [List.length_nil] at this
        omega
      · have k2 := (k1.newF (o := TxO X.prog X.w a (once xs)) ha).newF (o := .lst (ts.map V.str)) hb
        have s2 : Same F1 (upd (upd F1 a (TxO X.prog X.w a (once xs))) b (.lst (ts.map V.str))) := (same_new (k1.f.free ha)).trans (same_new ((k1.newF (o := TxO X.prog X.w a (once xs)) ha).f.free hb))
        refine q (.d (.list (ts.map PyData.str))) w (.ref b) _ R1 _ (o ts (fun x => by rw [hm, once_mem]) ?_) (s1.trans s2) (Y.mono s2 i1) (.lst upd_same (rpA_strs _)) rfl k2
        rw [hlen]
        have := once_len xs []
        unfold once
        rw [List.length_nil] at this
        omega)
/-- len(set(e)) -/
theorem ev_lenSet {xs : List Str} (hc : X.calm = true) (hm : X.mg "len" = none) (hm2 : X.mg "set" = none) (he : Ev X Ω ρ e (.list (xs.map PyData.str))) (hl : xs.length < 1000)
    (hg : Gl X "len" := by rfl) (hg2 : Gl X "set" := by rfl) (hs : starEach [e] X.env = (false, eval e X.env) :: starEach [] X.env := by rfl) (hpl : (backTo pos2 (starEach [] X.env)).any (·.1) = false := by rfl)
    (hs2 : starEach [.Call (.Name "set" p2) [e] [] pos2] X.env = (false, eval (.Call (.Name "set" p2) [e] [] pos2) X.env) :: starEach [] X.env := by rfl) (hpl2 : (backTo pos (starEach [] X.env)).any (·.1) = false := by rfl) :
    Ev X Ω ρ (.Call (.Name "len" p) [.Call (.Name "set" p2) [e] [] pos2] [] pos) (.int ((once xs).length : Nat)) := fun F L R H σ g om k Q q =>
  toE (pe_callB cr_lenS hg hm PySem.boot_len (pa_cons (pe_callTy (cr_setS hc) hg2 hm2 PyProof.Rows.boot_set (pa_cons (pe_w e) pa_nil hs) (by decide) (by decide) hs hpl) pa_nil hs2) (by decide) (by decide) hs2 hpl2) (he F L R H σ g om k _ fun v F1 R1 H1 s1 o1 k1 r1 => by
    cases r1 with
    | lst h1 r1 =>
      rw [r1.strs] at h1
      refine ⟨_, xs, rfl, SqL.of (k1.f _ _ h1), hl, fun a ha => ⟨a, once xs, rfl, upd_same, ?_, ?_⟩⟩
      · have := once_len xs []
        unfold once
        rw [List.length_nil] at this
        omega
      · exact q _ _ _ _ (s1.trans (same_new (k1.f.free ha))) (Ω.mono (same_new (k1.f.free ha)) o1) (k1.newF ha) (.int _))
end
end G
end

section
set_option Elab.async false
set_option linter.all false
set_option maxRecDepth 100000
set_option maxHeartbeats 4000000
/-! ### reading the rest: values, calls that leave all as it is -/
namespace G
open PySem PySem.Spec PyProof.Rows L2
def ToV (Ω : Om) (F L : Hp) (sv : Sv) (Q : VK) : Prop := ∀ v F' R' H', Same F F' → Ω.I F' R' → Ok F' L R' H' → RpS F' L v sv → Q v H'
def EvV (X : Cx) (Ω : Om) (ρ : Rho) (e : Expr) (sv : Sv) : Prop := ∀ F L R H σ, Sg F L σ ρ → Ω.I F R → Ok F L R H → ∀ Q : VK, ToV Ω F L sv Q → wE X e σ H Q
def EvVA (X : Cx) (Ω : Om) (ρ : Rho) (es : List Expr) (svs : List Sv) : Prop := ∀ F L R H σ, Sg F L σ ρ → Ω.I F R → Ok F L R H → ∀ Q : List V → Hp → Prop, (∀ vs F' R' H', Same F F' → Ω.I F' R' → Ok F' L R' H' → Paired (fun v sv => RpS F' L v sv ∧ isOwn sv = false) vs svs → Q vs H') → wA X es σ H Q
theorem ToV.same {Ω : Om} {F F1 L : Hp} {sv : Sv} {Q : VK} (s : Same F F1) (q : ToV Ω F L sv Q) : ToV Ω F1 L sv Q := fun v F' R' H' s' => q v F' R' H' (s.trans s')
theorem paired_mono {F F' L : Hp} (s : Same F F') : ∀ {vs : List V} {svs : List Sv}, Paired (fun v sv => RpS F L v sv ∧ isOwn sv = false) vs svs → Paired (fun v sv => RpS F' L v sv ∧ isOwn sv = false) vs svs
  | _, _, .nil => .nil
  | _, _, .cons h r => .cons ⟨h.1.mono s, h.2⟩ (paired_mono s r)
section
variable {X : Cx} {Ω : Om} {CA : Str → Addr} {ρ : Rho} {a b c e : Expr} {es : List Expr} {pos p apos : Pos} {d : PyData} {sv : Sv} {svs : List Sv}
theorem EvV.dat (h : EvV X Ω ρ e (.d d)) : Ev X Ω ρ e d := h
theorem Ev.v (h : Ev X Ω ρ e d) : EvV X Ω ρ e (.d d) := h
theorem EvV.is {sv' : Sv} (h : EvV X Ω ρ e sv) (q : sv = sv') : EvV X Ω ρ e sv' := q ▸ h
theorem vv (i : Nat) {x : Str} (h : ρ[i]? = some (some sv) := by rfl) (hN : X.N[i]? = some x := by rfl) (hv : Vis X.env.scope x := by first | exact Or.inl rfl | exact Or.inr (Or.inl rfl) | exact Or.inr (Or.inr rfl)) (hd : (x == ("__debug__" : Str)) = false := by decide)
    (hcd : (x == ("__classdict__" : Str)) = false := by decide) : EvV X Ω ρ (.Name x pos) sv := fun F L R H σ g om k Q q => by
  obtain ⟨v, h1, h2⟩ := g.at_ i _ h
  exact toE (pe_var hN hv hd hcd) ⟨v, h1, q v F R H (Same.refl F) om k h2⟩
theorem va_nil : EvVA X Ω ρ [] [] := fun F L R H σ g om k Q q => toA pa_nil (q [] F R H (Same.refl F) om k .nil)
theorem va_cons (h : EvV X Ω ρ e sv) (h' : EvVA X Ω ρ es svs) (hn : isOwn sv = false := by rfl) (hs : starEach (e :: es) X.env = (false, eval e X.env) :: starEach es X.env := by rfl) : EvVA X Ω ρ (e :: es) (sv :: svs) := fun F L R H σ g om k Q q =>
  toA (pa_cons (pe_w e) (pa_w es) hs) (h F L R H σ g om k _ fun x F1 R1 H1 s1 o1 k1 r1 => h' F1 L R1 H1 σ (g.mono s1) o1 k1 _ fun vs F2 R2 H2 s2 o2 k2 r2 => q _ F2 R2 H2 (s1.trans s2) o2 k2 (.cons ⟨r1.mono s2, hn⟩ r2))
theorem va_one (h : EvV X Ω ρ e sv) (hn : isOwn sv = false := by rfl) (hs : starEach [e] X.env = (false, eval e X.env) :: starEach [] X.env := by rfl) : EvVA X Ω ρ [e] [sv] := va_cons h va_nil hn hs
variable {Y : Wd} {w : Y.W} {O : Sv → Y.W → Prop} {Ox : Str → Y.W → Prop} {OA : List Sv → Y.W → Prop}
theorem EvV.s (h : EvV X (Y.om w) ρ e sv) (o : O sv w) (hn : isOwn sv = false := by rfl) : EvS X CA Y ρ w e O Ox := fun F L R H σ g i k Q Wx tk q qx => h F L R H σ g i k Q fun v F' R' H' s' i' k' r' => q sv w v F' R' H' o s' i' r' hn k'
theorem EvVA.s (h : EvVA X (Y.om w) ρ es svs) (o : OA svs w) : EvSA X CA Y ρ w es OA Ox := fun F L R H σ g i k Q Wx tk q qx => h F L R H σ g i k Q fun vs F' R' H' s' i' k' r' => q svs w vs F' R' H' o s' i' r' k'
/-- what leaves all as it is -/
theorem EvS.v (h : EvS X CA Y ρ w e (fun sv' w' => sv' = sv ∧ w' = w) (fun _ _ => False)) : EvV X (Y.om w) ρ e sv := fun F L R H σ g i k Q q =>
  h F L R H σ g i k Q (fun _ _ _ _ => False) takes0 (fun sv' w' v F' R' H' o s' i' r' n' k' => by
    obtain ⟨rfl, rfl⟩ := o
    exact q v F' R' H' s' i' k' r') (fun _ _ _ _ _ o => o.elim)
theorem EvST.v {v : Bool} (h : EvST X CA Y ρ w e (fun v' w' => v' = v ∧ w' = w) (fun _ _ => False)) : EvT X (Y.om w) ρ e v := fun F L R H σ g i k Q q =>
  h F L R H σ g i k Q (fun _ _ _ _ => False) takes0 (fun v' w' F' R' H' o s' i' k' => by
    obtain ⟨rfl, rfl⟩ := o
    exact q F' R' H' s' i' k') (fun _ _ _ _ _ o => o.elim)
end
/-- a def that changes nothing: what comes -/
def rdo (Rl : List Sv → List Thing → ResS → Prop) : Spc := fun svs w Q => ∃ r, Rl svs w r ∧ Q r w
section
variable {X : Cx} {CA : Str → Addr} {R0 : Hp} {ρ : Rho} {w : List Thing} {e o : Expr} {es : List Expr} {pos p apos : Pos} {O : Sv → List Thing → Prop} {Ox : Str → List Thing → Prop} {Rl : List Sv → List Thing → ResS → Prop} {k : Nat} {x m : Str} {C : Addr} {sv : Sv} {svs : List Sv} {sp : Spc}
theorem vcall (fn : FnX X k x (lift CA (pmW (rdo Rl)))) (hr : Room k X.A) (ha : EvVA X ((ThW R0).om w) ρ (e :: es) svs) (h : Rl svs w (.ok sv)) (hg : Gl X x := by rfl) (hdb : (x == ("__debug__" : Str)) = false := by decide)
    (he : starEach (e :: es) X.env = (false, eval e X.env) :: starEach es X.env := by rfl) (hpl : (backTo pos (starEach es X.env)).any (·.1) = false := by rfl) : EvV X ((ThW R0).om w) ρ (.Call (.Name x p) (e :: es) [] pos) sv :=
  EvS.v (Y := ThW R0) (es_callW fn hr (EvVA.s ha ⟨_, h, rfl, rfl⟩) hg hdb he hpl)
/-- f(..), whatever it does -/
theorem ecall (fn : FnX X k x (lift CA (pmW sp))) (hr : Room k X.A) (ha : EvVA X ((ThW R0).om w) ρ (e :: es) svs) (h : sp svs w (resS O Ox)) (hg : Gl X x := by rfl) (hdb : (x == ("__debug__" : Str)) = false := by decide)
    (he : starEach (e :: es) X.env = (false, eval e X.env) :: starEach es X.env := by rfl) (hpl : (backTo pos (starEach es X.env)).any (·.1) = false := by rfl) : EvS X CA (ThW R0) ρ w (.Call (.Name x p) (e :: es) [] pos) O Ox :=
  es_callW fn hr (EvVA.s ha h) hg hdb he hpl
/-- an instance stands there -/
def IsI (w : List Thing) (a C : Addr) (fn : List Str) : Prop := ∀ F R0 R H, Sep F R0 w R → Same F H → Same R H → ∃ dx fs, H a = some (.ins C dx fs) ∧ fs.map (·.1) = fn
theorem lookup_none {fs : List (Str × V)} {m : Str} (h : m ∉ fs.map (·.1)) : fs.lookup m = none := by
  induction fs with
  | nil => rfl
  | cons p fs ih =>
    rw [List.map_cons, List.mem_cons, not_or] at h
    rw [List.lookup_cons]
    have : (m == p.1) = false := by simpa using h.1
    rw [this]
    exact ih h.2
/-- o.m(..), whatever it does -/
theorem emethS {pl : Sem Bool} {a : Addr} {fns : List Str} (fn : FnM X.prog X.w X.K X.mg X.base k C m (lift CA (pmW sp))) (hr : Room k X.A) (c : Cls X.K C) (ho : EvV X ((ThW R0).om w) ρ o (.raw (.ref a))) (hi : IsI w a C fns) (ha : EvSA X CA (ThW R0) ρ w (e :: es) (fun svs w1 => sp (.raw (.ref a) :: svs) w1 (resS O Ox)) Ox) (hm : m ∉ fns := by decide)
    (hst : starEach (e :: es) X.env = (false, eval e X.env) :: starEach es X.env := by rfl) (hpl : (backTo pos (starEach es X.env)).any (·.1) = false := by rfl)
    (ht : eval (.Call (.Attribute o m apos) (e :: es) [] pos) X.env = (do
      let ov ← eval o X.env
      standAt apos.atName
      let (f, first) ← holding [ov] (getMethod ov m pl)
      callWith pos f first (backTo pos (starEach (e :: es) X.env)) (backToKw pos (keywordEach [] X.env))) := by rfl) : EvS X CA (ThW R0) ρ w (.Call (.Attribute o m apos) (e :: es) [] pos) O Ox := fun F L R H σ g i kk Q Wx tk q qx => by
  obtain ⟨f, fd, ps, fn, hM, hb⟩ := fn.ex
  refine toE (pe_mS (pe_w o) c hM fn hr hb (fun τ => passAt tk τ) (pa_w _) hst hpl ht) (ho F L R H σ g i kk _ fun v F1 R1 H1 s1 i1 k1 r1 => ?_)
  cases r1
  obtain ⟨dx, fs, h1, h2⟩ := hi F1 R0 R1 H1 i1 k1.f k1.r
  refine ⟨a, dx, fs, rfl, h1, lookup_none (h2 ▸ hm), ha F1 L R1 H1 σ (g.mono s1) i1 k1 _ Wx tk (fun svs w2 vs F2 R2 H2 o2 s2 i2 r2 k2 => ?_) (qx.same s1)⟩
  exact lift_w (svs := .raw (.ref a) :: svs) k2 i2 (.cons ⟨rfl, rfl⟩ r2) o2 ((q.same s1).same s2) ((qx.same s1).same s2)
theorem emeth {pl : Sem Bool} {a : Addr} {fns : List Str} (fn : FnM X.prog X.w X.K X.mg X.base k C m (lift CA (pmW sp))) (hr : Room k X.A) (c : Cls X.K C) (ho : EvV X ((ThW R0).om w) ρ o (.raw (.ref a))) (hi : IsI w a C fns) (ha : EvVA X ((ThW R0).om w) ρ (e :: es) svs) (h : sp (.raw (.ref a) :: svs) w (resS O Ox)) (hm : m ∉ fns := by decide)
    (hst : starEach (e :: es) X.env = (false, eval e X.env) :: starEach es X.env := by rfl) (hpl : (backTo pos (starEach es X.env)).any (·.1) = false := by rfl)
    (ht : eval (.Call (.Attribute o m apos) (e :: es) [] pos) X.env = (do
      let ov ← eval o X.env
      standAt apos.atName
      let (f, first) ← holding [ov] (getMethod ov m pl)
      callWith pos f first (backTo pos (starEach (e :: es) X.env)) (backToKw pos (keywordEach [] X.env))) := by rfl) : EvS X CA (ThW R0) ρ w (.Call (.Attribute o m apos) (e :: es) [] pos) O Ox :=
  emethS fn hr c ho hi (EvVA.s ha h) hm hst hpl ht
theorem emeth0 {pl : Sem Bool} {a : Addr} {fns : List Str} (fn : FnM X.prog X.w X.K X.mg X.base k C m (lift CA (pmW sp))) (hr : Room k X.A) (c : Cls X.K C) (ho : EvV X ((ThW R0).om w) ρ o (.raw (.ref a))) (hi : IsI w a C fns) (h : sp [.raw (.ref a)] w (resS O Ox)) (hm : m ∉ fns := by decide)
    (ht : eval (.Call (.Attribute o m apos) [] [] pos) X.env = (do
      let ov ← eval o X.env
      standAt apos.atName
      let (f, first) ← holding [ov] (getMethod ov m pl)
      callWith pos f first (backTo pos (starEach [] X.env)) (backToKw pos (keywordEach [] X.env))) := by rfl) : EvS X CA (ThW R0) ρ w (.Call (.Attribute o m apos) [] [] pos) O Ox := fun F L R H σ g i kk Q Wx tk q qx => by
  obtain ⟨f, fd, ps, fn, hM, hb⟩ := fn.ex
  refine toE (pe_mS0 (pe_w o) c hM fn hr hb (fun τ => passAt tk τ) ht) (ho F L R H σ g i kk _ fun v F1 R1 H1 s1 i1 k1 r1 => ?_)
  cases r1
  obtain ⟨dx, fs, h1, h2⟩ := hi F1 R0 R1 H1 i1 k1.f k1.r
  exact ⟨a, dx, fs, rfl, h1, lookup_none (h2 ▸ hm), lift_w (svs := [.raw (.ref a)]) k1 i1 (.cons ⟨rfl, rfl⟩ .nil) h (q.same s1) (qx.same s1)⟩
theorem vmeth {pl : Sem Bool} {a : Addr} {fns : List Str} (fn : FnM X.prog X.w X.K X.mg X.base k C m (lift CA (pmW (rdo Rl)))) (hr : Room k X.A) (c : Cls X.K C) (ho : EvV X ((ThW R0).om w) ρ o (.raw (.ref a))) (hi : IsI w a C fns) (ha : EvVA X ((ThW R0).om w) ρ (e :: es) svs) (h : Rl (.raw (.ref a) :: svs) w (.ok sv)) (hm : m ∉ fns := by decide)
    (hst : starEach (e :: es) X.env = (false, eval e X.env) :: starEach es X.env := by rfl) (hpl : (backTo pos (starEach es X.env)).any (·.1) = false := by rfl)
    (ht : eval (.Call (.Attribute o m apos) (e :: es) [] pos) X.env = (do
      let ov ← eval o X.env
      standAt apos.atName
      let (f, first) ← holding [ov] (getMethod ov m pl)
      callWith pos f first (backTo pos (starEach (e :: es) X.env)) (backToKw pos (keywordEach [] X.env))) := by rfl) : EvV X ((ThW R0).om w) ρ (.Call (.Attribute o m apos) (e :: es) [] pos) sv :=
  EvS.v (Y := ThW R0) (emeth fn hr c ho hi ha ⟨_, h, rfl, rfl⟩ hm hst hpl ht)
theorem vmeth0 {pl : Sem Bool} {a : Addr} {fns : List Str} (fn : FnM X.prog X.w X.K X.mg X.base k C m (lift CA (pmW (rdo Rl)))) (hr : Room k X.A) (c : Cls X.K C) (ho : EvV X ((ThW R0).om w) ρ o (.raw (.ref a))) (hi : IsI w a C fns) (h : Rl [.raw (.ref a)] w (.ok sv)) (hm : m ∉ fns := by decide)
    (ht : eval (.Call (.Attribute o m apos) [] [] pos) X.env = (do
      let ov ← eval o X.env
      standAt apos.atName
      let (f, first) ← holding [ov] (getMethod ov m pl)
      callWith pos f first (backTo pos (starEach [] X.env)) (backToKw pos (keywordEach [] X.env))) := by rfl) : EvV X ((ThW R0).om w) ρ (.Call (.Attribute o m apos) [] [] pos) sv :=
  EvS.v (Y := ThW R0) (emeth0 fn hr c ho hi ⟨_, h, rfl, rfl⟩ hm ht)
/-- e.f -/
def Fld (K : PySem.W.Frag) (w : List Thing) (a : Addr) (f : Str) (sv : Sv) : Prop := isOwn sv = false ∧ ∀ F R0 R H, Sep F R0 w R → Same F H → Same R H → ∃ (C dx : Addr) (fs : List (Str × V)) (v : V), H a = some (.ins C dx fs) ∧ Cls K C ∧ NoAttr K C f ∧ fs.lookup f = some v ∧ RpS F no v sv
theorem vfld {a : Addr} {f : Str} (ho : EvV X ((ThW R0).om w) ρ o (.raw (.ref a))) (hf : Fld X.K w a f sv) (hb : attributeBase o f X.env (eval o X.env) = eval o X.env := by rfl) : EvV X ((ThW R0).om w) ρ (.Attribute o f pos) sv := fun F L R H σ g om kk Q q =>
  toE (pe_fld (pe_w o) hb) (ho F L R H σ g om kk _ fun v F1 R1 H1 s1 o1 k1 r1 => by
    cases r1
    obtain ⟨C, dx, fs, v', h1, h2, h3, h4, h5⟩ := hf.2 F1 R0 R1 H1 o1 k1.f k1.r
    exact ⟨a, C, dx, fs, v', rfl, h1, h2, h3, h4, q v' F1 R1 H1 s1 o1 k1 (RpS.anyL hf.1 h5)⟩)
end
end G
end

section
set_option Elab.async false
set_option linter.all false
set_option maxRecDepth 100000
set_option maxHeartbeats 4000000
/-! ### dicts as plain lists of keys and values -/
namespace G
open PySem PySem.Spec PyProof.Rows L2
section
variable {κ β γ : Type} [DecidableEq κ]
def aget (kvs : List (κ × β)) (k : κ) : Option β := (kvs.find? fun p => decide (p.1 = k)).map (·.2)
def aput (kvs : List (κ × β)) (k : κ) (v : β) : List (κ × β) := if (kvs.any fun p => decide (p.1 = k)) = true then kvs.map (fun p => if p.1 = k then (p.1, v) else p) else kvs ++ [(k, v)]
def adrop (kvs : List (κ × β)) (k : κ) : List (κ × β) := kvs.filter fun p => decide (p.1 ≠ k)
theorem aget_cons (p : κ × β) (r : List (κ × β)) (k : κ) : aget (p :: r) k = if p.1 = k then some p.2 else aget r k := by
  unfold aget
  rw [List.find?_cons]
  by_cases h : p.1 = k
  · rw [if_pos h, decide_eq_true h]
    rfl
  · rw [if_neg h, decide_eq_false h]
theorem any_aget (k : κ) : ∀ kvs : List (κ × β), (kvs.any fun p => decide (p.1 = k)) = (aget kvs k).isSome
  | [] => rfl
  | p :: r => by
    rw [List.any_cons, aget_cons, any_aget k r]
    by_cases h : p.1 = k
    · rw [if_pos h, decide_eq_true h]
      rfl
    · rw [if_neg h, decide_eq_false h]
      rfl
/-- with other keys, other values -/
theorem aget_map {κ' : Type} [DecidableEq κ'] (f : κ → κ') (g : β → γ) (hf : ∀ a b, f a = f b → a = b) (k : κ) : ∀ kvs : List (κ × β), aget (kvs.map fun p => (f p.1, g p.2)) (f k) = (aget kvs k).map g
  | [] => rfl
  | p :: r => by
    rw [List.map_cons, aget_cons, aget_cons, aget_map f g hf k r]
    by_cases h : p.1 = k
    · rw [if_pos (congrArg f h), if_pos h]
      rfl
    · rw [if_neg (fun z => h (hf _ _ z)), if_neg h]
theorem aput_map {κ' : Type} [DecidableEq κ'] (f : κ → κ') (g : β → γ) (hf : ∀ a b, f a = f b → a = b) (k : κ) (v : β) (kvs : List (κ × β)) : aput (kvs.map fun p => (f p.1, g p.2)) (f k) (g v) = (aput kvs k v).map fun p => (f p.1, g p.2) := by
  unfold aput
  have e : ((kvs.map fun p => (f p.1, g p.2)).any fun p => decide (p.1 = f k)) = (kvs.any fun p => decide (p.1 = k)) := by
    rw [any_aget, any_aget, aget_map f g hf]
    cases aget kvs k <;> rfl
  rw [e]
  by_cases h : (kvs.any fun p => decide (p.1 = k)) = true
  · rw [if_pos h, if_pos h, List.map_map, List.map_map]
    apply List.map_congr_left
    intro p _
    show (if f p.1 = f k then (f p.1, g v) else (f p.1, g p.2)) = (fun p => (f p.1, g p.2)) (if p.1 = k then (p.1, v) else p)
    by_cases hp : p.1 = k
    · rw [if_pos (congrArg f hp), if_pos hp]
    · rw [if_neg (fun z => hp (hf _ _ z)), if_neg hp]
  · rw [if_neg h, if_neg h, List.map_append]
    rfl
theorem adrop_map {κ' : Type} [DecidableEq κ'] (f : κ → κ') (g : β → γ) (hf : ∀ a b, f a = f b → a = b) (k : κ) (kvs : List (κ × β)) : adrop (kvs.map fun p => (f p.1, g p.2)) (f k) = (adrop kvs k).map fun p => (f p.1, g p.2) := by
  unfold adrop
  rw [List.filter_map]
  congr 1
  apply List.filter_congr
  intro p _
  show decide (f p.1 ≠ f k) = decide (p.1 ≠ k)
  have e : (f p.1 ≠ f k) = (p.1 ≠ k) := propext ⟨fun h z => h (congrArg f z), fun h z => h (hf _ _ z)⟩
  by_cases h : p.1 = k
  · simp [h]
  · have h' : ¬ f p.1 = f k := fun z => h (hf _ _ z)
    simp [h, h']
theorem aput_len (kvs : List (κ × β)) (k : κ) (v : β) : (aput kvs k v).length ≤ kvs.length + 1 := by
  unfold aput
  split
  · rw [List.length_map]
    exact Nat.le_succ _
  · rw [List.length_append]
    exact Nat.le_refl _
theorem aput_new {kvs : List (κ × β)} {k : κ} (v : β) (h : aget kvs k = none) : aput kvs k v = kvs ++ [(k, v)] := by
  unfold aput
  rw [any_aget, h, if_neg (by simp)]
theorem aget_append (k : κ) (l : List (κ × β)) : ∀ kvs : List (κ × β), aget (kvs ++ l) k = (aget kvs k).or (aget l k)
  | [] => by
    rw [List.nil_append]
    cases aget l k <;> rfl
  | p :: r => by
    rw [List.cons_append, aget_cons, aget_cons, aget_append k l r]
    by_cases h : p.1 = k
    · rw [if_pos h, if_pos h]
      rfl
    · rw [if_neg h, if_neg h]
theorem aget_mem {kvs : List (κ × β)} {k : κ} {v : β} (h : aget kvs k = some v) : (k, v) ∈ kvs := by
  induction kvs with
  | nil => cases h
  | cons p r ih =>
    rw [aget_cons] at h
    by_cases e : p.1 = k
    · rw [if_pos e] at h
      cases h
      subst e
      exact List.mem_cons_self
    · rw [if_neg e] at h
      exact List.mem_cons_of_mem _ (ih h)
theorem aget_none {kvs : List (κ × β)} {k : κ} : aget kvs k = none ↔ k ∉ kvs.map (·.1) := by
  induction kvs with
  | nil => simp [aget]
  | cons p r ih =>
    rw [aget_cons, List.map_cons, List.mem_cons, not_or]
    by_cases e : p.1 = k
    · rw [if_pos e]
      simp [e]
    · rw [if_neg e, ih]
      exact ⟨fun h => ⟨fun z => e z.symm, h⟩, fun h => h.2⟩
theorem aget_of_mem {kvs : List (κ × β)} (nd : (kvs.map (·.1)).Nodup) {k : κ} {v : β} (h : (k, v) ∈ kvs) : aget kvs k = some v := by
  induction kvs with
  | nil => cases h
  | cons p r ih =>
    rw [List.map_cons, List.nodup_cons] at nd
    rw [aget_cons]
    rcases List.mem_cons.mp h with rfl | h
    · rw [if_pos rfl]
    · have ne : ¬ p.1 = k := fun e => nd.1 (by rw [e]; exact List.mem_map.mpr ⟨_, h, rfl⟩)
      rw [if_neg ne, ih nd.2 h]
theorem aput_keys (kvs : List (κ × β)) (k : κ) (v : β) : (aput kvs k v).map (·.1) = if (aget kvs k).isSome then kvs.map (·.1) else kvs.map (·.1) ++ [k] := by
  unfold aput
  rw [any_aget]
  cases (aget kvs k).isSome with
  | true =>
    rw [if_pos rfl, if_pos rfl, List.map_map]
    apply List.map_congr_left
    intro p _
    show (if p.1 = k then (p.1, v) else p).1 = p.1
    split <;> rfl
  | false =>
    rw [if_neg (by simp), if_neg (by simp), List.map_append]
    rfl
theorem aget_aput (kvs : List (κ × β)) (k k' : κ) (v : β) : aget (aput kvs k v) k' = if k = k' then some v else aget kvs k' := by
  unfold aput
  cases e : (kvs.any fun p => decide (p.1 = k)) with
  | false =>
    rw [if_neg (by simp), aget_append, aget_cons]
    rw [any_aget] at e
    have e' : aget kvs k = none := by
      cases q : aget kvs k with
      | none => rfl
      | some z =>
        rw [q] at e
        cases e
    show (aget kvs k').or (if k = k' then some v else none) = _
    by_cases h : k = k'
    · subst h
      rw [e', if_pos rfl]
      rfl
    · rw [if_neg h, if_neg h]
      cases aget kvs k' <;> rfl
  | true =>
    rw [if_pos rfl]
    have key : ∀ l : List (κ × β), aget (l.map fun p => if p.1 = k then (p.1, v) else p) k' = if k = k' then (if (l.any fun p => decide (p.1 = k)) = true then some v else none) else aget l k' := by
      intro l
      induction l with
      | nil => by_cases h : k = k' <;> simp [h, aget]
      | cons p r ih =>
        rw [List.map_cons, aget_cons, ih, List.any_cons, aget_cons]
        by_cases hp : p.1 = k
        · rw [if_pos hp, decide_eq_true hp]
          by_cases h : k = k'
          · subst h
            simp [hp]
          · have : ¬ p.1 = k' := fun z => h (hp.symm.trans z)
            simp [h, this]
        · rw [if_neg hp, decide_eq_false hp, Bool.false_or]
          by_cases h : k = k'
          · subst h
            rw [if_neg hp, if_pos rfl, if_pos rfl]
          · rw [if_neg h, if_neg h]
    rw [key, e]
    by_cases h : k = k' <;> simp [h]
theorem aget_adrop (kvs : List (κ × β)) (k k' : κ) : aget (adrop kvs k) k' = if k = k' then none else aget kvs k' := by
  induction kvs with
  | nil => by_cases h : k = k' <;> simp [h, adrop, aget]
  | cons p r ih =>
    unfold adrop at ih ⊢
    rw [List.filter_cons]
    by_cases hp : p.1 = k
    · rw [if_neg (by simp [hp]), ih, aget_cons]
      by_cases h : k = k'
      · rw [if_pos h, if_pos h]
      · rw [if_neg h, if_neg h, if_neg (fun z => h (hp.symm.trans z))]
    · rw [if_pos (by simp [hp]), aget_cons, ih, aget_cons]
      by_cases h : k = k'
      · subst h
        rw [if_neg hp, if_pos rfl, if_pos rfl]
      · rw [if_neg h, if_neg h]
end
theorem valV_aget {κ : Type} [DecidableEq κ] (kvs : List (κ × V)) (k : κ) : valV kvs k = aget kvs k := rfl
theorem putK_aput {κ : Type} [DecidableEq κ] (kvs : List (κ × V)) (k : κ) (v : V) : putK kvs k v = aput kvs k v := rfl
/-- values of a dict, as the data tell -/
def RpK {κ : Type} (F : Hp) : List (κ × V) → List (κ × Sv) → Prop := Paired fun p q => p.1 = q.1 ∧ RpS F no p.2 q.2 ∧ isOwn q.2 = false
section
variable {κ : Type} [DecidableEq κ] {F F' : Hp}
theorem RpK.mono (s : Same F F') : ∀ {kvs : List (κ × V)} {kss : List (κ × Sv)}, RpK F kvs kss → RpK F' kvs kss
  | _, _, .nil => .nil
  | _, _, .cons h r => .cons ⟨h.1, h.2.1.mono s, h.2.2⟩ (RpK.mono s r)
theorem RpK.len : ∀ {kvs : List (κ × V)} {kss : List (κ × Sv)}, RpK F kvs kss → kvs.length = kss.length
  | _, _, .nil => rfl
  | _, _, .cons _ r => by rw [List.length_cons, List.length_cons, RpK.len r]
theorem RpK.keys : ∀ {kvs : List (κ × V)} {kss : List (κ × Sv)}, RpK F kvs kss → kvs.map (·.1) = kss.map (·.1)
  | _, _, .nil => rfl
  | _, _, .cons h r => by rw [List.map_cons, List.map_cons, h.1, RpK.keys r]
theorem RpK.get (k : κ) : ∀ {kvs : List (κ × V)} {kss : List (κ × Sv)}, RpK F kvs kss → (aget kss k = none ∧ aget kvs k = none) ∨ ∃ sv v, aget kss k = some sv ∧ aget kvs k = some v ∧ RpS F no v sv ∧ isOwn sv = false
  | _, _, .nil => .inl ⟨rfl, rfl⟩
  | p :: _, q :: _, .cons h r => by
    rw [aget_cons, aget_cons]
    by_cases e : q.1 = k
    · rw [if_pos e, if_pos (h.1.trans e)]
      exact .inr ⟨_, _, rfl, rfl, h.2⟩
    · rw [if_neg e, if_neg (fun z => e (h.1.symm.trans z))]
      exact RpK.get k r
theorem RpK.app {l : List (κ × V)} {m : List (κ × Sv)} (t : RpK F l m) : ∀ {kvs : List (κ × V)} {kss : List (κ × Sv)}, RpK F kvs kss → RpK F (kvs ++ l) (kss ++ m)
  | _, _, .nil => t
  | _, _, .cons h r => .cons h (RpK.app t r)
theorem RpK.put {kvs : List (κ × V)} {kss : List (κ × Sv)} (r : RpK F kvs kss) (k : κ) {v : V} {sv : Sv} (h : RpS F no v sv) (hn : isOwn sv = false) : RpK F (aput kvs k v) (aput kss k sv) := by
  unfold aput
  have e : (kvs.any fun p => decide (p.1 = k)) = (kss.any fun p => decide (p.1 = k)) := by
    rw [any_aget, any_aget]
    rcases r.get k with ⟨e1, e2⟩ | ⟨_, _, e1, e2, _⟩ <;> rw [e1, e2] <;> rfl
  rw [e]
  split
  · rename_i c
    clear e c
    induction r with
    | nil => exact .nil
    | @cons p q ps qs h' r ih =>
      rw [List.map_cons, List.map_cons]
      refine .cons ?_ ih
      by_cases hp : q.1 = k
      · rw [if_pos hp, if_pos (h'.1.trans hp)]
        exact ⟨h'.1, h, hn⟩
      · rw [if_neg hp, if_neg (fun z => hp (h'.1.symm.trans z))]
        exact h'
  · exact RpK.app (.cons ⟨rfl, h, hn⟩ .nil) r
theorem RpK.drop {kvs : List (κ × V)} {kss : List (κ × Sv)} (r : RpK F kvs kss) (k : κ) : RpK F (adrop kvs k) (adrop kss k) := by
  unfold adrop
  induction r with
  | nil => exact .nil
  | @cons p q ps qs h r ih =>
    rw [List.filter_cons, List.filter_cons]
    by_cases hp : q.1 = k
    · have hp' : p.1 = k := h.1.trans hp
      simp only [hp, hp', ne_eq, not_true_eq_false, decide_false, Bool.false_eq_true, if_false]
      exact ih
    · have hp' : ¬ p.1 = k := fun z => hp (h.1.symm.trans z)
      simp only [hp, hp', ne_eq, not_false_eq_true, decide_true, if_true]
      exact .cons h ih
end
/-- kinds of keys: ints and texts; tuples of them -/
structure KD (κ : Type) [DecidableEq κ] where
  ho : List (κ × V) → HO
  enc : κ → PyData
  get : ∀ {F H : Hp} {a : Addr} {y : V} {kvs : List (κ × V)} {k : κ}, Rp F y (enc k) → Same F H → Rd H a (ho kvs) → DGet H a y (valV kvs k)
  isD : ∀ {H : Hp} {a : Addr} {kvs : List (κ × V)}, Rd H a (ho kvs) → IsD H a
  put : ∀ {F H : Hp} {a : Addr} {y v : V} {kvs : List (κ × V)} {k : κ}, Rp F y (enc k) → Same F H → H a = some (ho kvs) → kvs.length < sizeLine → DPut H a y v (upd H a (ho (putK kvs k v)))
  new : ∀ {X : Cx} {pos : Pos}, PE X (.Dict [] [] pos) fun _ H Q => ∀ p, H p = none → Q (.ref p) (upd H p (ho []))
  len : ∀ {X : Cx}, CallR X (.builtin "len") fun xs H Q => ∃ a kvs, xs = [V.ref a] ∧ H a = some (ho kvs) ∧ Q (.int (kvs.length : Nat)) H
def kdK : KD L2.Key where
  ho := .dK
  enc := keyD
  get := fun ry s h => .inl ⟨_, _, h, rp_key ry, rfl⟩
  isD := fun h => .inl ⟨_, h⟩
  put := fun ry s h hl => by
    rw [rp_key ry]
    exact DPut.k h hl
  new := ⟨fun pins s σ H Q I h => pe_dnewK.run pins s σ H Q I h⟩
  len := fun pins s σ H xs us Q I r h => call_lenD pins s σ H xs us Q I r h
def kdT : KD (List L2.Key) where
  ho := .dT
  enc := fun ks => .tuple (ks.map keyD)
  get := fun ry s h => by
    cases ry with
    | tup h1 h2 =>
      rw [rpA_keys h2] at h1
      exact .inr ⟨_, _, _, h, rfl, s _ _ h1, rfl⟩
  isD := fun h => .inr ⟨_, h⟩
  put := fun ry s h hl => by
    cases ry with
    | tup h1 h2 =>
      rw [rpA_keys h2] at h1
      exact DPut.t h (s _ _ h1) hl
  new := ⟨fun pins s σ H Q I h => pe_dnewT.run pins s σ H Q I h⟩
  len := fun pins s σ H xs us Q I r h => call_len_dT pins s σ H xs us Q I r h
end G
end

section
set_option Elab.async false
set_option linter.all false
set_option maxRecDepth 100000
set_option maxHeartbeats 4000000
/-! ### dicts: reading and writing over things -/
namespace G
open PySem PySem.Spec PyProof.Rows L2
section
variable {κ : Type} [DecidableEq κ]
/-- a dict stands there, locked or not; one that may be written -/
def DicR (D : KD κ) (w : List Thing) (a : Addr) (kss : List (κ × Sv)) : Prop := ∀ F R0 R H, Sep F R0 w R → Same F H → Same R H → ∃ kvs, Rd H a (D.ho kvs) ∧ RpK F kvs kss
def DicH (D : KD κ) (w : List Thing) (a : Addr) (kss : List (κ × Sv)) : Prop := ∀ F R0 R H, Sep F R0 w R → Same F H → Same R H → ∃ kvs, H a = some (D.ho kvs) ∧ RpK F kvs kss
theorem DicH.r {D : KD κ} {w : List Thing} {a : Addr} {kss : List (κ × Sv)} (h : DicH D w a kss) : DicR D w a kss := fun F R0 R H s sf sr => by
  obtain ⟨kvs, h1, h2⟩ := h F R0 R H s sf sr
  exact ⟨kvs, .inl h1, h2⟩
/-- a thing of its own -/
def DicS (D : KD κ) (a : Addr) (kss : List (κ × Sv)) : Thing := ⟨fun F M => ∃ kvs, M a = some (D.ho kvs) ∧ RpK F kvs kss, fun sF sM h => by
  obtain ⟨kvs, h1, h2⟩ := h
  exact ⟨kvs, sM _ _ h1, h2.mono sF⟩⟩
theorem dicH_of {D : KD κ} {w : List Thing} {a : Addr} {kss : List (κ × Sv)} (i : Nat) (e : w[i]? = some (DicS D a kss)) : DicH D w a kss := fun F R0 R H s sf sr => by
  obtain ⟨M, ⟨kvs, h1, h2⟩, h3⟩ := s.get e
  exact ⟨kvs, sr _ _ (h3 _ _ h1), h2⟩
/-- a thing that holds a dict, and what it becomes when the dict does -/
structure DicW (D : KD κ) (t : Thing) (a : Addr) (kss : List (κ × Sv)) (u : List (κ × Sv) → Thing) : Prop where
  is : ∀ F M, t.P F M → ∃ kvs, M a = some (D.ho kvs) ∧ RpK F kvs kss
  put : ∀ F M kvs' kss', t.P F M → RpK F kvs' kss' → (u kss').P F (upd M a (D.ho kvs'))
theorem dicW_S (D : KD κ) (a : Addr) (kss : List (κ × Sv)) : DicW D (DicS D a kss) a kss (DicS D a) :=
  ⟨fun F M h => h, fun F M kvs' kss' _ r => ⟨kvs', upd_same, r⟩⟩
section
variable {D : KD κ} {X : Cx} {CA : Str → Addr} {R0 : Hp} {ρ : Rho} {w : List Thing} {e a b c : Expr} {es : List Expr} {pos p apos : Pos} {O : Sv → List Thing → Prop} {Ox : Str → List Thing → Prop} {OS : Out (List Thing)} {q : Addr} {kss : List (κ × Sv)} {k : κ} {sv : Sv}
/-- d[k] -/
theorem vdget (hu : X.A.units + 1 < cLine) (ha : EvV X ((ThW R0).om w) ρ a (.raw (.ref q))) (hb : Ev X ((ThW R0).om w) ρ b (D.enc k)) (hd : DicR D w q kss) (hk : aget kss k = some sv) (hs : NoSl b := by exact fun _ _ => rfl) : EvV X ((ThW R0).om w) ρ (.Subscript a b pos) sv := fun F L R H σ g om kk Q z =>
  toE (pe_dget hu (pe_w a) (pe_w b) hs) (ha F L R H σ g om kk _ fun x F1 R1 H1 s1 o1 k1 r1 => hb F1 L R1 H1 σ (g.mono s1) o1 k1 _ fun y F2 R2 H2 s2 o2 k2 r2 => by
    cases r1
    obtain ⟨kvs, h1, h2⟩ := hd F2 R0 R2 H2 o2 k2.f k2.r
    rcases h2.get k with ⟨e1, _⟩ | ⟨sv', v, e1, e2, h3, h4⟩
    · rw [hk] at e1
      cases e1
    · rw [hk] at e1
      cases e1
      refine ⟨q, v, rfl, ?_, z v F2 R2 H2 (s1.trans s2) o2 k2 (RpS.anyL h4 h3)⟩
      rw [← e2]
      exact D.get r2 k2.f h1)
theorem dget_val {F H : Hp} {y : V} (ry : Rp F y (D.enc k)) (s : Same F H) {kvs : List (κ × V)} (h1 : Rd H q (D.ho kvs)) (h2 : RpK F kvs kss) : ∃ o, DGet H q y o ∧ o.isSome = (aget kss k).isSome := by
  refine ⟨_, D.get ry s h1, ?_⟩
  rw [valV_aget]
  rcases h2.get k with ⟨e1, e2⟩ | ⟨sv', v, e1, e2, _⟩ <;> rw [e1, e2] <;> rfl
/-- k in d, k not in d -/
theorem et_din (hu : X.A.units + 1 < cLine) (ha : Ev X ((ThW R0).om w) ρ a (D.enc k)) (hb : EvV X ((ThW R0).om w) ρ b (.raw (.ref q))) (hd : DicR D w q kss) (hm : behindInMarks .In b = false := by rfl) : EvT X ((ThW R0).om w) ρ (.Compare a [.In] [b] pos) (aget kss k).isSome := fun F L R H σ g om kk Q z =>
  toT (pt_cmp (pc_din hu (pe_w a) (pe_w b)) hm) (ha F L R H σ g om kk _ fun x F1 R1 H1 s1 o1 k1 r1 => hb F1 L R1 H1 σ (g.mono s1) o1 k1 _ fun y F2 R2 H2 s2 o2 k2 r2 => by
    cases r2
    obtain ⟨kvs, h1, h2⟩ := hd F2 R0 R2 H2 o2 k2.f k2.r
    obtain ⟨o, h3, h4⟩ := dget_val (r1.mono s2) k2.f h1 h2
    exact ⟨q, o, rfl, h3, _, rfl, by rw [h4]; exact z F2 R2 H2 (s1.trans s2) o2 k2⟩)
theorem et_dnotin (hu : X.A.units + 1 < cLine) (ha : Ev X ((ThW R0).om w) ρ a (D.enc k)) (hb : EvV X ((ThW R0).om w) ρ b (.raw (.ref q))) (hd : DicR D w q kss) (hm : behindInMarks .NotIn b = false := by rfl) : EvT X ((ThW R0).om w) ρ (.Compare a [.NotIn] [b] pos) (!(aget kss k).isSome) := fun F L R H σ g om kk Q z =>
  toT (pt_cmp (pc_dnotin hu (pe_w a) (pe_w b)) hm) (ha F L R H σ g om kk _ fun x F1 R1 H1 s1 o1 k1 r1 => hb F1 L R1 H1 σ (g.mono s1) o1 k1 _ fun y F2 R2 H2 s2 o2 k2 r2 => by
    cases r2
    obtain ⟨kvs, h1, h2⟩ := hd F2 R0 R2 H2 o2 k2.f k2.r
    obtain ⟨o, h3, h4⟩ := dget_val (r1.mono s2) k2.f h1 h2
    exact ⟨q, o, rfl, h3, _, rfl, by rw [h4]; exact z F2 R2 H2 (s1.trans s2) o2 k2⟩)
/-- k in d, as a value -/
theorem ev_din (hu : X.A.units + 1 < cLine) (ha : Ev X ((ThW R0).om w) ρ a (D.enc k)) (hb : EvV X ((ThW R0).om w) ρ b (.raw (.ref q))) (hd : DicR D w q kss) (hm : behindInMarks .In b = false := by rfl) : Ev X ((ThW R0).om w) ρ (.Compare a [.In] [b] pos) (.bool (aget kss k).isSome) := fun F L R H σ g om kk Q z =>
  toE (pe_cmp (pc_din hu (pe_w a) (pe_w b)) hm) (ha F L R H σ g om kk _ fun x F1 R1 H1 s1 o1 k1 r1 => hb F1 L R1 H1 σ (g.mono s1) o1 k1 _ fun y F2 R2 H2 s2 o2 k2 r2 => by
    cases r2
    obtain ⟨kvs, h1, h2⟩ := hd F2 R0 R2 H2 o2 k2.f k2.r
    obtain ⟨o, h3, h4⟩ := dget_val (r1.mono s2) k2.f h1 h2
    exact ⟨q, o, rfl, h3, by rw [h4]; exact z _ F2 R2 H2 (s1.trans s2) o2 k2 (.bl _)⟩)
/-- d.get(k, x) -/
theorem vdgetD {svx svr : Sv} (hu : X.A.units + 1 < cLine) (ha : EvV X ((ThW R0).om w) ρ a (.raw (.ref q))) (hb : Ev X ((ThW R0).om w) ρ b (D.enc k)) (hc : EvV X ((ThW R0).om w) ρ c svx) (hd : DicR D w q kss) (hr : (aget kss k).getD svx = svr) (m : M2 X a "get" apos b c pos := by exact ⟨rfl, rfl, rfl, rfl⟩) :
    EvV X ((ThW R0).om w) ρ (.Call (.Attribute a "get" apos) [b, c] [] pos) svr := fun F L R H σ g om kk Q z =>
  toE (pe_dget2 hu (pe_w a) (pe_w b) (pe_w c) m) (ha F L R H σ g om kk _ fun x F1 R1 H1 s1 o1 k1 r1 => by
    cases r1
    obtain ⟨kvs1, h11, _⟩ := hd F1 R0 R1 H1 o1 k1.f k1.r
    refine ⟨q, rfl, D.isD h11, hb F1 L R1 H1 σ (g.mono s1) o1 k1 _ fun y F2 R2 H2 s2 o2 k2 r2 => hc F2 L R2 H2 σ (g.mono (s1.trans s2)) o2 k2 _ fun x3 F3 R3 H3 s3 o3 k3 r3 => ?_⟩
    obtain ⟨kvs, h1, h2⟩ := hd F3 R0 R3 H3 o3 k3.f k3.r
    refine ⟨_, D.get (r2.mono s3) k3.f h1, ?_⟩
    rw [valV_aget]
    subst hr
    rcases h2.get k with ⟨e1, e2⟩ | ⟨sv', v, e1, e2, h5, h6⟩
    · rw [e2]
      refine z _ F3 R3 H3 ((s1.trans s2).trans s3) o3 k3 ?_
      rw [e1]
      exact r3
    · rw [e2]
      refine z _ F3 R3 H3 ((s1.trans s2).trans s3) o3 k3 ?_
      rw [e1]
      exact RpS.anyL h6 h5)
/-- len(d) -/
theorem ev_dlen (hm : X.mg "len" = none) (ha : EvV X ((ThW R0).om w) ρ a (.raw (.ref q))) (hd : DicH D w q kss)
    (hg : Gl X "len" := by rfl) (hs : starEach [a] X.env = (false, eval a X.env) :: starEach [] X.env := by rfl) (hpl : (backTo pos (starEach [] X.env)).any (·.1) = false := by rfl) : Ev X ((ThW R0).om w) ρ (.Call (.Name "len" p) [a] [] pos) (.int (kss.length : Nat)) := fun F L R H σ g om kk Q z =>
  toE (pe_callB D.len hg hm PySem.boot_len (pa_cons (pe_w a) pa_nil hs) (by decide) (by decide) hs hpl) (ha F L R H σ g om kk _ fun x F1 R1 H1 s1 o1 k1 r1 => by
    cases r1
    obtain ⟨kvs, h1, h2⟩ := hd F1 R0 R1 H1 o1 k1.f k1.r
    exact ⟨q, kvs, rfl, h1, by rw [h2.len]; exact z _ F1 R1 H1 s1 o1 k1 (.int _)⟩)
/-- {} -/
theorem es_dnew (D : KD κ) (h : ∀ q, O (.raw (.ref q)) (w ++ [DicS D q []])) : EvS X CA (ThW R0) ρ w (.Dict [] [] pos) O Ox := fun F L R H σ g ii k Q Wx tk q qx =>
  toE D.new fun p hp => q (.raw (.ref p)) _ _ F _ _ (h p) (Same.refl _) (Sep.new ii (k.r.free hp) ⟨[], upd_same, .nil⟩) rfl rfl (k.newR hp)
/-- d[k] = v -/
theorem s_dset {pos' : Pos} {t : Thing} {u : List (κ × Sv) → Thing} (i : Nat) (hu : X.A.units + 1 < cLine) (he : EvV X ((ThW R0).om w) ρ e sv) (ha : EvV X ((ThW R0).om w) ρ a (.raw (.ref q))) (hb : Ev X ((ThW R0).om w) ρ b (D.enc k)) (hi : w[i]? = some t) (hw : DicW D t q kss u) (hl : kss.length < sizeLine) (o : OS.nx ρ (w.set i (u (aput kss k sv)))) (hn : isOwn sv = false := by rfl)
    (hs : swapsWith e (some (.Subscript a b pos')) pos.line X.env = pure false := by rfl) : S1 X CA (ThW R0) ρ w (.Assign [.Subscript a b pos'] e pos) OS := fun F L R H σ g ii k1 Dd Wx tk m => by
  refine toS (ps_dput hu (pe_w a) (pe_w b) (pe_w e) hs) (he F L R H σ g ii k1 _ fun v F1 R1 H1 s1 o1 k1 r1 => ha F1 L R1 H1 σ (g.mono s1) o1 k1 _ fun x F2 R2 H2 s2 o2 k2 r2 => hb F2 L R2 H2 σ (g.mono (s1.trans s2)) o2 k2 _ fun y F3 R3 H3 s3 o3 k3 r3 => ?_)
  cases r2
  have i3 : Sep F3 R0 w R3 := o3
  obtain ⟨M, hP, hMR, hU⟩ := Sep.upd i3 hi
  obtain ⟨kvs, h1, h2⟩ := hw.is F3 M hP
  have haR := hMR _ _ h1
  have r1' := RpS.anyL (L' := no) hn (r1.mono (s2.trans s3))
  refine ⟨q, _, rfl, D.put r3 k3.f (k3.r _ _ haR) (by rw [h2.len]; exact hl), m.nx ρ _ F3 L _ _ σ o ((s1.trans s2).trans s3) (hU F3 q _ _ (Same.refl _) (.inl (by rw [h1]; simp)) (hw.put F3 M _ _ hP (h2.put k r1' hn))) (g.mono ((s1.trans s2).trans s3)) (k3.setR haR)⟩
end
end
/-- a thing with an instance: fields as the data tell -/
def RpF (F : Hp) : List (Str × V) → List (Str × Sv) → Prop := RpK F
structure InsW (t : Thing) (C a : Addr) (fss : List (Str × Sv)) (u : List (Str × Sv) → Thing) : Prop where
  is : ∀ F M, t.P F M → ∃ dx fs, M a = some (.ins C dx fs) ∧ RpK F fs fss
  put : ∀ F M dx fs fs' fss', t.P F M → M a = some (.ins C dx fs) → RpK F fs' fss' → (u fss').P F (upd M a (.ins C dx fs'))
def InsS (C a dx : Addr) (fss : List (Str × Sv)) : Thing := ⟨fun F M => ∃ fs, M a = some (.ins C dx fs) ∧ M dx = some (.own a) ∧ RpK F fs fss, fun sF sM h => by
  obtain ⟨fs, h1, h2, h3⟩ := h
  exact ⟨fs, sM _ _ h1, sM _ _ h2, h3.mono sF⟩⟩
theorem insW_S {C a dx : Addr} (hne : dx ≠ a) (fss : List (Str × Sv)) : InsW (InsS C a dx fss) C a fss (InsS C a dx) := by
  refine ⟨fun F M ⟨fs, h1, _, h3⟩ => ⟨dx, fs, h1, h3⟩, fun F M dx' fs fs' fss' ⟨fs0, h1, h2, h3⟩ h4 r => ⟨fs', ?_, ?_, r⟩⟩
  · rw [h1] at h4
    cases h4
    exact upd_same
  · rw [upd_ne hne]
    exact h2
theorem lookup_aget {β : Type} (f : Str) : ∀ fs : List (Str × β), fs.lookup f = aget fs f
  | [] => rfl
  | p :: r => by
    rw [List.lookup_cons, aget_cons, lookup_aget f r]
    by_cases h : p.1 = f
    · rw [if_pos h]
      simp [h]
    · have : ¬ f = p.1 := fun z => h z.symm
      rw [if_neg h]
      have e : (f == p.1) = false := by simpa using this
      rw [e]
def putFS (f : Str) (v : Sv) : List (Str × Sv) → List (Str × Sv)
  | [] => [(f, v)]
  | (g, x) :: r => if g = f then (g, v) :: r else (g, x) :: putFS f v r
theorem RpK.setF {F : Hp} {f : Str} {v : V} {sv : Sv} (h : RpS F no v sv) (hn : isOwn sv = false) : ∀ {fs : List (Str × V)} {fss : List (Str × Sv)}, RpK F fs fss → RpK F (putF f v fs) (putFS f sv fss)
  | _, _, .nil => .cons ⟨rfl, h, hn⟩ .nil
  | (g, x) :: _, (g', x') :: _, .cons h' r => by
    obtain ⟨e, h2⟩ := h'
    have e : g = g' := e
    subst e
    show RpK F (if g = f then (g, v) :: _ else (g, x) :: putF f v _) (if g = f then (g, sv) :: _ else (g, x') :: putFS f sv _)
    by_cases hg : g = f
    · rw [if_pos hg, if_pos hg]
      exact .cons ⟨rfl, h, hn⟩ r
    · rw [if_neg hg, if_neg hg]
      exact .cons ⟨rfl, h2⟩ (RpK.setF h hn r)
theorem fld_of {K : PySem.W.Frag} {w : List Thing} {t : Thing} {C a : Addr} {fss : List (Str × Sv)} {u : List (Str × Sv) → Thing} {f : Str} {sv : Sv} (i : Nat) (e : w[i]? = some t) (hw : InsW t C a fss u) (c : Cls K C) (na : NoAttr K C f) (hf : aget fss f = some sv) (hn : isOwn sv = false := by rfl) : Fld K w a f sv := by
  refine ⟨hn, fun F R0 R H s sf sr => ?_⟩
  obtain ⟨M, h1, h2⟩ := s.get e
  obtain ⟨dx, fs, h3, h4⟩ := hw.is F M h1
  rcases h4.get f with ⟨e1, _⟩ | ⟨sv', v, e1, e2, h5, h6⟩
  · rw [hf] at e1
    cases e1
  · rw [hf] at e1
    cases e1
    exact ⟨C, dx, fs, v, sr _ _ (h2 _ _ h3), c, na, by rw [lookup_aget]; exact e2, h5⟩
theorem isI_of {w : List Thing} {t : Thing} {C a : Addr} {fss : List (Str × Sv)} {u : List (Str × Sv) → Thing} (i : Nat) (e : w[i]? = some t) (hw : InsW t C a fss u) : IsI w a C (fss.map (·.1)) := fun F R0 R H s sf sr => by
  obtain ⟨M, h1, h2⟩ := s.get e
  obtain ⟨dx, fs, h3, h4⟩ := hw.is F M h1
  exact ⟨dx, fs, sr _ _ (h2 _ _ h3), h4.keys⟩
section
variable {X : Cx} {CA : Str → Addr} {R0 : Hp} {ρ : Rho} {w : List Thing} {e b : Expr} {pos : Pos} {OS : Out (List Thing)} {sv : Sv}
/-- b.f = e -/
theorem s_fset {f : Str} {pos' : Pos} {t : Thing} {C a : Addr} {fss : List (Str × Sv)} {u : List (Str × Sv) → Thing} (i : Nat) (he : EvV X ((ThW R0).om w) ρ e sv) (hb : EvV X ((ThW R0).om w) ρ b (.raw (.ref a))) (hi : w[i]? = some t) (hw : InsW t C a fss u) (c : Cls X.K C) (na : NoAttr X.K C f) (o : OS.nx ρ (w.set i (u (putFS f sv fss)))) (hl : fss.length < 1000 := by decide) (hn : isOwn sv = false := by rfl)
    (hs : swapsWith e (some (.Attribute b f pos')) pos.line X.env = pure false := by rfl) : S1 X CA (ThW R0) ρ w (.Assign [.Attribute b f pos'] e pos) OS := fun F L R H σ g ii k D Wx tk m => by
  refine toS (ps_fld (pe_w b) (pe_w e) hs) (he F L R H σ g ii k _ fun v F1 R1 H1 s1 o1 k1 r1 => hb F1 L R1 H1 σ (g.mono s1) o1 k1 _ fun x F2 R2 H2 s2 o2 k2 r2 => ?_)
  cases r2
  have i2 : Sep F2 R0 w R2 := o2
  obtain ⟨M, hP, hMR, hU⟩ := Sep.upd i2 hi
  obtain ⟨dx, fs, h1, h2⟩ := hw.is F2 M hP
  have haR := hMR _ _ h1
  exact ⟨a, C, dx, fs, rfl, k2.r _ _ haR, c, na, by rw [h2.len]; exact hl, m.nx ρ _ F2 L _ _ σ o (s1.trans s2) (hU F2 a _ _ (Same.refl _) (.inl (by rw [h1]; simp)) (hw.put F2 M dx fs _ _ hP h1 (h2.setF (RpS.anyL hn (r1.mono s2)) hn))) (g.mono (s1.trans s2)) (k2.setR haR)⟩
end
end G
end

section
set_option Elab.async false
set_option linter.all false
set_option maxHeartbeats 2000000
/-! ### shapes as plain things: rows, columns, which cells -/
namespace Sh
open PySem
structure Mx where
  h : Nat
  w : Nat
  f : Nat → Nat → Bool
namespace Mx
structure Good (m : Mx) : Prop where
  h1 : 1 ≤ m.h
  h4 : m.h ≤ 4
  w1 : 1 ≤ m.w
  w4 : m.w ≤ 4
  top : ∃ c, c < m.w ∧ m.f 0 c = true
  bot : ∃ c, c < m.w ∧ m.f (m.h - 1) c = true
  lef : ∃ r, r < m.h ∧ m.f r 0 = true
  rig : ∃ r, r < m.h ∧ m.f r (m.w - 1) = true
def turn (m : Mx) : Mx := ⟨m.w, m.h, fun k j => m.f (m.h - 1 - j) k⟩
def turnN : Nat → Mx → Mx
  | 0, m => m
  | n + 1, m => (turnN n m).turn
theorem turnN_add (a b : Nat) (m : Mx) : turnN (a + b) m = turnN a (turnN b m) := by
  induction a with
  | zero => simp [turnN]
  | succ a ih => rw [show a + 1 + b = (a + b) + 1 by omega, turnN, turnN, ih]
theorem Good.turn {m : Mx} (g : m.Good) : m.turn.Good := by
  obtain ⟨h1, h4, w1, w4, ⟨c1, t1, t2⟩, ⟨c2, b1, b2⟩, ⟨r1, l1, l2⟩, ⟨r2, q1, q2⟩⟩ := g
  refine ⟨w1, w4, h1, h4, ⟨m.h - 1 - r1, ?_, ?_⟩, ⟨m.h - 1 - r2, ?_, ?_⟩, ⟨c2, b1, ?_⟩, ⟨c1, t1, ?_⟩⟩
  · show m.h - 1 - r1 < m.h
    omega
  · show m.f (m.h - 1 - (m.h - 1 - r1)) 0 = true
    rw [show m.h - 1 - (m.h - 1 - r1) = r1 by omega]
    exact l2
  · show m.h - 1 - r2 < m.h
    omega
  · show m.f (m.h - 1 - (m.h - 1 - r2)) (m.w - 1) = true
    rw [show m.h - 1 - (m.h - 1 - r2) = r2 by omega]
    exact q2
  · show m.f (m.h - 1 - 0) c2 = true
    exact b2
  · show m.f (m.h - 1 - (m.h - 1)) c1 = true
    rw [Nat.sub_self]
    exact t2
theorem Good.turnN {m : Mx} (g : m.Good) : ∀ n, (Mx.turnN n m).Good
  | 0 => g
  | n + 1 => (Good.turnN g n).turn
/-! the cells, rising -/
def cells (m : Mx) : List (Nat × Nat) := (List.range m.h).flatMap fun r => ((List.range m.w).filter (m.f r)).map fun c => (r, c)
theorem mem_cells {m : Mx} {p : Nat × Nat} : p ∈ m.cells ↔ p.1 < m.h ∧ p.2 < m.w ∧ m.f p.1 p.2 = true := by
  unfold cells
  constructor
  · intro h
    obtain ⟨r, hr, h⟩ := List.mem_flatMap.mp h
    obtain ⟨c, hc, e⟩ := List.mem_map.mp h
    obtain ⟨h1, h2⟩ := List.mem_filter.mp hc
    subst e
    exact ⟨List.mem_range.mp hr, List.mem_range.mp h1, h2⟩
  · rintro ⟨h1, h2, h3⟩
    exact List.mem_flatMap.mpr ⟨p.1, List.mem_range.mpr h1, List.mem_map.mpr ⟨p.2, List.mem_filter.mpr ⟨List.mem_range.mpr h2, h3⟩, rfl⟩⟩
def ltP (a b : Nat × Nat) : Prop := a.1 < b.1 ∨ (a.1 = b.1 ∧ a.2 < b.2)
theorem rows_sorted (f : Nat → Nat → Bool) (w : Nat) : ∀ l : List Nat, l.Pairwise (· < ·) → (l.flatMap fun r => ((List.range w).filter (f r)).map fun c => (r, c)).Pairwise ltP
  | [], _ => List.Pairwise.nil
  | r :: l, h => by
    obtain ⟨h1, h2⟩ := List.pairwise_cons.mp h
    rw [List.flatMap_cons, List.pairwise_append]
    refine ⟨?_, rows_sorted f w l h2, ?_⟩
    · rw [List.pairwise_map]
      refine (List.Pairwise.filter _ (List.pairwise_lt_range)).imp fun {a b} hab => ?_
      exact Or.inr ⟨rfl, hab⟩
    · intro a ha b hb
      obtain ⟨c, _, e⟩ := List.mem_map.mp ha
      obtain ⟨r', hr', hb⟩ := List.mem_flatMap.mp hb
      obtain ⟨c', _, e'⟩ := List.mem_map.mp hb
      subst e e'
      exact Or.inl (h1 r' hr')
theorem cells_sorted (m : Mx) : m.cells.Pairwise ltP := rows_sorted m.f m.w _ List.pairwise_lt_range
/-- two lists that rise, of the same things -/
theorem rise_unique {α : Type} (lt : α → α → Prop) (irr : ∀ a, ¬ lt a a) (asym : ∀ a b, lt a b → ¬ lt b a) : ∀ {l l' : List α}, l.Pairwise lt → l'.Pairwise lt → (∀ x, x ∈ l ↔ x ∈ l') → l = l'
  | [], [], _, _, _ => rfl
  | [], b :: l', _, _, h => by
    have := (h b).mpr List.mem_cons_self
    cases this
  | a :: l, [], _, _, h => by
    have := (h a).mp List.mem_cons_self
    cases this
  | a :: l, b :: l', h1, h2, h => by
    obtain ⟨p1, p2⟩ := List.pairwise_cons.mp h1
    obtain ⟨q1, q2⟩ := List.pairwise_cons.mp h2
    have e : a = b := by
      rcases List.mem_cons.mp ((h a).mp List.mem_cons_self) with e | e
      · exact e
      · rcases List.mem_cons.mp ((h b).mpr List.mem_cons_self) with e' | e'
        · exact e'.symm
        · exact absurd (p1 b e') (asym _ _ (q1 a e))
    subst e
    congr 1
    refine rise_unique lt irr asym p2 q2 fun x => ⟨fun hx => ?_, fun hx => ?_⟩
    · rcases List.mem_cons.mp ((h x).mp (List.mem_cons_of_mem _ hx)) with e | e
      · subst e
        exact absurd (p1 x hx) (irr x)
      · exact e
    · rcases List.mem_cons.mp ((h x).mpr (List.mem_cons_of_mem _ hx)) with e | e
      · subst e
        exact absurd (q1 x hx) (irr x)
      · exact e
theorem ltP_irr (a : Nat × Nat) : ¬ ltP a a := fun h => by
  rcases h with h | ⟨_, h⟩ <;> omega
theorem ltP_asym (a b : Nat × Nat) (h : ltP a b) : ¬ ltP b a := fun h' => by
  rcases h with h | ⟨e, h⟩ <;> rcases h' with h' | ⟨e', h'⟩ <;> omega
/-! as texts -/
def rowS (w : Nat) (g : Nat → Bool) : Str := ⟨((List.range w).map fun c => if g c then 35 else 46).toArray⟩
def enc (m : Mx) : List Str := (List.range m.h).map fun r => rowS m.w (m.f r)
theorem rowS_cs (w : Nat) (g : Nat → Bool) : (rowS w g).cps.toList = (List.range w).map fun c => if g c then 35 else 46 := by
  simp [rowS]
theorem rowS_len (w : Nat) (g : Nat → Bool) : (rowS w g).length = w := by
  simp [rowS, Str.length]
theorem rowS_inj {w w' : Nat} {g g' : Nat → Bool} (h : rowS w g = rowS w' g') : w = w' ∧ ∀ c, c < w → g c = g' c := by
  have hw : w = w' := by
    have := congrArg Str.length h
    rw [rowS_len, rowS_len] at this
    exact this
  subst hw
  refine ⟨rfl, fun c hc => ?_⟩
  have e := congrArg (fun z : Str => z.cps.toList[c]?) h
  simp only [rowS_cs, List.getElem?_map, List.getElem?_range hc, Option.map_some, Option.some.injEq] at e
  cases q : g c <;> cases q' : g' c <;> simp [q, q'] at e ⊢
theorem enc_eq_iff {m m' : Mx} (g : m.Good) (g' : m'.Good) : m.enc = m'.enc ↔ (m.h = m'.h ∧ m.w = m'.w ∧ ∀ r c, r < m.h → c < m.w → m.f r c = m'.f r c) := by
  constructor
  · intro e
    have hh : m.h = m'.h := by
      have := congrArg List.length e
      simpa [enc] using this
    have row : ∀ r, r < m.h → rowS m.w (m.f r) = rowS m'.w (m'.f r) := fun r hr => by
      have := congrArg (fun l : List Str => l[r]?) e
      simp only [enc, List.getElem?_map, List.getElem?_range hr, List.getElem?_range (hh ▸ hr), Option.map_some, Option.some.injEq] at this
      exact this
    refine ⟨hh, (rowS_inj (row 0 (by have := g.h1; omega))).1, fun r c hr hc => (rowS_inj (row r hr)).2 c hc⟩
  · rintro ⟨h1, h2, h3⟩
    unfold enc
    rw [h1, ← h2]
    refine List.map_congr_left fun r hr => ?_
    have hr : r < m'.h := List.mem_range.mp hr
    unfold rowS
    congr 2
    refine List.map_congr_left fun c hc => ?_
    rw [h3 r c (by omega) (List.mem_range.mp hc)]
theorem cells_eq_iff {m m' : Mx} (g : m.Good) (g' : m'.Good) : m.cells = m'.cells ↔ (m.h = m'.h ∧ m.w = m'.w ∧ ∀ r c, r < m.h → c < m.w → m.f r c = m'.f r c) := by
  constructor
  · intro e
    have mem : ∀ p, p ∈ m.cells ↔ p ∈ m'.cells := fun p => by rw [e]
    have hb : ∀ {a b : Mx}, a.Good → b.Good → (∀ p, p ∈ a.cells → p ∈ b.cells) → a.h ≤ b.h ∧ a.w ≤ b.w := fun {a b} ga gb h => by
      obtain ⟨c, h1, h2⟩ := ga.bot
      obtain ⟨r, h3, h4⟩ := ga.rig
      have q1 := mem_cells.mp (h (a.h - 1, c) (mem_cells.mpr ⟨by have := ga.h1; show a.h - 1 < a.h; omega, h1, h2⟩))
      have q2 := mem_cells.mp (h (r, a.w - 1) (mem_cells.mpr ⟨h3, by have := ga.w1; show a.w - 1 < a.w; omega, h4⟩))
      have := q1.1
      have := q2.2.1
      simp only at *
      omega
    have b1 := hb g g' fun p hp => (mem p).mp hp
    have b2 := hb g' g fun p hp => (mem p).mpr hp
    have eh : m.h = m'.h := by omega
    have ew : m.w = m'.w := by omega
    refine ⟨eh, ew, fun r c hr hc => ?_⟩
    have := mem (r, c)
    rw [mem_cells, mem_cells] at this
    simp only at this
    cases q : m.f r c <;> cases q' : m'.f r c <;> simp_all
  · rintro ⟨h1, h2, h3⟩
    refine rise_unique ltP ltP_irr ltP_asym m.cells_sorted m'.cells_sorted fun p => ?_
    rw [mem_cells, mem_cells]
    constructor
    · rintro ⟨a, b, c⟩
      exact ⟨by omega, by omega, by rw [← h3 p.1 p.2 a b]; exact c⟩
    · rintro ⟨a, b, c⟩
      exact ⟨by omega, by omega, by rw [h3 p.1 p.2 (by omega) (by omega)]; exact c⟩
theorem enc_cells {m m' : Mx} (g : m.Good) (g' : m'.Good) : m.enc = m'.enc ↔ m.cells = m'.cells := (enc_eq_iff g g').trans (cells_eq_iff g g').symm
/-- four turns -/
theorem turn4 {m : Mx} (g : m.Good) : (turnN 4 m).enc = m.enc := by
  refine (enc_eq_iff (g.turnN 4) g).mpr ⟨rfl, rfl, fun r c hr hc => ?_⟩
  have hr : r < m.h := hr
  have hc : c < m.w := hc
  show m.f (m.h - 1 - (m.h - 1 - r)) (m.w - 1 - (m.w - 1 - c)) = m.f r c
  rw [show m.h - 1 - (m.h - 1 - r) = r by omega, show m.w - 1 - (m.w - 1 - c) = c by omega]
theorem turn_cong {m m' : Mx} (g : m.Good) (g' : m'.Good) (e : m.enc = m'.enc) : m.turn.enc = m'.turn.enc := by
  obtain ⟨h1, h2, h3⟩ := (enc_eq_iff g g').mp e
  refine (enc_eq_iff g.turn g'.turn).mpr ⟨h2, h1, fun r c hr hc => ?_⟩
  have hr : r < m.w := hr
  have hc : c < m.h := hc
  show m.f (m.h - 1 - c) r = m'.f (m'.h - 1 - c) r
  rw [← h1]
  exact h3 _ _ (by omega) hr
theorem turnN_cong {m m' : Mx} (g : m.Good) (g' : m'.Good) (e : m.enc = m'.enc) : ∀ n, (turnN n m).enc = (turnN n m').enc
  | 0 => e
  | n + 1 => turn_cong (g.turnN n) (g'.turnN n) (turnN_cong g g' e n)
theorem turnN_mod {m : Mx} (g : m.Good) (n : Nat) : (turnN n m).enc = (turnN (n % 4) m).enc := by
  have : ∀ q r, (turnN (r + 4 * q) m).enc = (turnN r m).enc := by
    intro q
    induction q with
    | zero => intro r; rfl
    | succ q ih =>
      intro r
      rw [show r + 4 * (q + 1) = (r + 4 * q) + 4 by omega, turnN_add]
      have e := turnN_cong (g.turnN 4) g (turn4 g) (r + 4 * q)
      rw [e]
      exact ih r
  have e := this (n / 4) (n % 4)
  rw [show n % 4 + 4 * (n / 4) = n by omega] at e
  exact e
end Mx
end Sh
end

section
set_option Elab.async false
set_option linter.all false
set_option maxHeartbeats 2000000
namespace Sh
open PySem
/-! ### cells turned one by one, moved to the corner, sorted -/
def castP (p : Nat × Nat) : Int × Int := ((p.1 : Int), (p.2 : Int))
def prI (p : Int × Int) : PyData := .tuple [.int p.1, .int p.2]
def rot (p : Int × Int) : Int × Int := (p.2, 0 - p.1)
def rotN : Nat → List (Int × Int) → List (Int × Int)
  | 0, l => l
  | n + 1, l => (rotN n l).map rot
def shift (a b : Int) (p : Nat × Nat) : Int × Int := ((p.1 : Int) + a, (p.2 : Int) + b)
theorem cells_nodup (m : Mx) : m.cells.Nodup := m.cells_sorted.imp fun {a b} h e => by
  subst e
  exact Mx.ltP_irr a h
theorem turn_perm (m : Mx) : (m.cells.map fun p => (p.2, m.h - 1 - p.1)).Perm m.turn.cells := by
  have nd1 : (m.cells.map fun p => (p.2, m.h - 1 - p.1)).Nodup := by
    unfold List.Nodup
    rw [List.pairwise_map]
    have hmem : m.cells.Pairwise fun a b => (a ∈ m.cells ∧ b ∈ m.cells) ∧ a ≠ b := by
      have h1 : m.cells.Pairwise (· ≠ ·) := cells_nodup m
      exact (List.pairwise_iff_forall_sublist.mpr fun {a b} hs => ⟨⟨hs.subset List.mem_cons_self, hs.subset (List.mem_cons_of_mem _ List.mem_cons_self)⟩, (List.pairwise_iff_forall_sublist.mp h1) hs⟩)
    refine hmem.imp fun {a b} h e => h.2 ?_
    obtain ⟨⟨ha, hb⟩, _⟩ := h
    have h1 := (Mx.mem_cells.mp ha).1
    have h2 := (Mx.mem_cells.mp hb).1
    have e1 := congrArg Prod.fst e
    have e2 := congrArg Prod.snd e
    simp only at e1 e2
    exact Prod.ext (by omega) e1
  refine (List.perm_ext_iff_of_nodup nd1 (cells_nodup m.turn)).mpr fun x => ?_
  constructor
  · intro h
    obtain ⟨p, hp, rfl⟩ := List.mem_map.mp h
    obtain ⟨h1, h2, h3⟩ := Mx.mem_cells.mp hp
    refine Mx.mem_cells.mpr ⟨h2, ?_, ?_⟩
    · show m.h - 1 - p.1 < m.h
      omega
    · show m.f (m.h - 1 - (m.h - 1 - p.1)) p.2 = true
      rw [show m.h - 1 - (m.h - 1 - p.1) = p.1 by omega]
      exact h3
  · intro h
    obtain ⟨h1, h2, h3⟩ := Mx.mem_cells.mp h
    have h1 : x.1 < m.w := h1
    have h2 : x.2 < m.h := h2
    have h3 : m.f (m.h - 1 - x.2) x.1 = true := h3
    refine List.mem_map.mpr ⟨(m.h - 1 - x.2, x.1), Mx.mem_cells.mpr ⟨?_, h1, h3⟩, ?_⟩
    · show m.h - 1 - x.2 < m.h
      omega
    · refine Prod.ext rfl ?_
      show m.h - 1 - (m.h - 1 - x.2) = x.2
      omega
theorem rotN_perm {m : Mx} (g : m.Good) : ∀ n, ∃ a b, (rotN n (m.cells.map castP)).Perm ((Mx.turnN n m).cells.map (shift a b))
  | 0 => ⟨0, 0, by
    show (m.cells.map castP).Perm (m.cells.map (shift 0 0))
    have e : castP = shift 0 0 := by
      funext p
      simp [castP, shift]
    rw [e]⟩
  | n + 1 => by
    obtain ⟨a, b, h⟩ := rotN_perm g n
    have gn := g.turnN n
    refine ⟨b, -(a + ((Mx.turnN n m).h : Int) - 1), ?_⟩
    show ((rotN n (m.cells.map castP)).map rot).Perm _
    refine (h.map rot).trans ?_
    show List.Perm _ ((Mx.turnN n m).turn.cells.map _)
    generalize Mx.turnN n m = k at gn
    have e1 : (k.cells.map (shift a b)).map rot = (k.cells.map fun p => (p.2, k.h - 1 - p.1)).map (shift b (-(a + (k.h : Int) - 1))) := by
      rw [List.map_map, List.map_map]
      refine List.map_congr_left fun p hp => ?_
      have h1 := (Mx.mem_cells.mp hp).1
      show rot (shift a b p) = shift b (-(a + (k.h : Int) - 1)) (p.2, k.h - 1 - p.1)
      simp only [rot, shift, Prod.mk.injEq]
      exact ⟨trivial, by omega⟩
    rw [e1]
    exact (turn_perm k).map _
/-- least row and column of the shifted cells -/
theorem shift_min {m : Mx} (g : m.Good) {a b : Int} {S : List (Int × Int)} (h : S.Perm (m.cells.map (shift a b))) :
    (a ∈ S.map (·.1) ∧ ∀ y ∈ S.map (·.1), a ≤ y) ∧ (b ∈ S.map (·.2) ∧ ∀ y ∈ S.map (·.2), b ≤ y) := by
  have mem : ∀ x, x ∈ S ↔ ∃ p ∈ m.cells, shift a b p = x := fun x => by
    rw [h.mem_iff, List.mem_map]
  obtain ⟨c, c1, c2⟩ := g.top
  obtain ⟨r, r1, r2⟩ := g.lef
  have h1 := g.h1
  have w1 := g.w1
  refine ⟨⟨List.mem_map.mpr ⟨shift a b (0, c), (mem _).mpr ⟨_, Mx.mem_cells.mpr ⟨by show 0 < m.h; omega, c1, c2⟩, rfl⟩, by simp [shift]⟩, fun y hy => ?_⟩,
    ⟨List.mem_map.mpr ⟨shift a b (r, 0), (mem _).mpr ⟨_, Mx.mem_cells.mpr ⟨r1, by show 0 < m.w; omega, r2⟩, rfl⟩, by simp [shift]⟩, fun y hy => ?_⟩⟩
  · obtain ⟨x, hx, rfl⟩ := List.mem_map.mp hy
    obtain ⟨p, _, rfl⟩ := (mem x).mp hx
    show a ≤ (p.1 : Int) + a
    omega
  · obtain ⟨x, hx, rfl⟩ := List.mem_map.mp hy
    obtain ⟨p, _, rfl⟩ := (mem x).mp hx
    show b ≤ (p.2 : Int) + b
    omega
def leI (p q : Int × Int) : Bool := decide (p.1 < q.1 ∨ (p.1 = q.1 ∧ p.2 ≤ q.2))
def ltI (p q : Int × Int) : Prop := p.1 < q.1 ∨ (p.1 = q.1 ∧ p.2 < q.2)
theorem dataLe_prI : PySem.W.dataLe false prI = leI := by
  have := PySem.W.dataLe_ii (β := Int × Int) (fun p => p.1) (fun p => p.2)
  exact this
theorem leI_trans (a b c : Int × Int) (h1 : leI a b = true) (h2 : leI b c = true) : leI a c = true := by
  unfold leI at *
  simp only [decide_eq_true_eq] at *
  omega
theorem leI_total (a b : Int × Int) : (leI a b || leI b a) = true := by
  unfold leI
  simp only [Bool.or_eq_true, decide_eq_true_eq]
  omega
/-- a list without repeats, sorted, is the list that rises -/
theorem sort_rise {S T : List (Int × Int)} (h : S.Perm T) (hT : T.Pairwise ltI) : S.mergeSort leI = T := by
  have hp := (List.mergeSort_perm S leI).trans h
  have hs := List.pairwise_mergeSort (le := leI) leI_trans leI_total S
  have ndT : T.Nodup := hT.imp fun {a b} hab e => by
    subst e
    rcases hab with h | ⟨_, h⟩ <;> omega
  have nd : (S.mergeSort leI).Nodup := hp.nodup_iff.mpr ndT
  have hs2 : (S.mergeSort leI).Pairwise ltI := by
    have hb : (S.mergeSort leI).Pairwise fun a b => leI a b = true ∧ a ≠ b := hs.and nd
    refine hb.imp fun {a b} hab => ?_
    obtain ⟨h1, h2⟩ := hab
    unfold leI at h1
    simp only [decide_eq_true_eq] at h1
    rcases h1 with h1 | ⟨h1, h3⟩
    · exact .inl h1
    · refine .inr ⟨h1, ?_⟩
      have : a.2 ≠ b.2 := fun e => h2 (Prod.ext h1 e)
      omega
  refine Mx.rise_unique ltI (fun a h => ?_) (fun a b h h' => ?_) hs2 hT fun x => hp.mem_iff
  · rcases h with h | ⟨_, h⟩ <;> omega
  · rcases h with h | ⟨e, h⟩ <;> rcases h' with h' | ⟨e', h'⟩ <;> omega
theorem cast_rise (m : Mx) : (m.cells.map castP).Pairwise ltI := by
  rw [List.pairwise_map]
  refine m.cells_sorted.imp fun {a b} h => ?_
  rcases h with h | ⟨e, h⟩
  · exact .inl (by show (a.1 : Int) < b.1; omega)
  · exact .inr ⟨by show (a.1 : Int) = b.1; omega, by show (a.2 : Int) < b.2; omega⟩
/-- .. moved to the corner and sorted: the turned shape's cells -/
theorem norm_sorted {m : Mx} {a b : Int} {S : List (Int × Int)} (h : S.Perm (m.cells.map (shift a b))) : (S.map fun p => (p.1 - a, p.2 - b)).mergeSort leI = m.cells.map castP := by
  refine sort_rise ?_ (cast_rise m)
  have e : (m.cells.map (shift a b)).map (fun p => (p.1 - a, p.2 - b)) = m.cells.map castP := by
    rw [List.map_map]
    refine List.map_congr_left fun p _ => ?_
    simp only [Function.comp, shift, castP, Prod.mk.injEq]
    omega
  rw [← e]
  exact h.map _
theorem rotN_ne {m : Mx} (g : m.Good) (n : Nat) : rotN n (m.cells.map castP) ≠ [] := by
  obtain ⟨a, b, h⟩ := rotN_perm g n
  intro e
  have := (shift_min (g.turnN n) h).1.1
  rw [e] at this
  cases this
theorem rotN_len (l : List (Int × Int)) : ∀ n, (rotN n l).length = l.length
  | 0 => rfl
  | n + 1 => by
    show ((rotN n l).map rot).length = _
    rw [List.length_map, rotN_len l n]
end Sh
end

section
set_option Elab.async false
set_option linter.all false
set_option maxRecDepth 100000
set_option maxHeartbeats 4000000
namespace T
open PySem L2
abbrev N_look_shape : List Str := ["shape", "good", "row", "sign", "k"]
abbrev P_look_shape : List Str := ["shape"]
theorem sc_look_shape : FnScope N_look_shape P_look_shape (defScope s_look_shape) := ⟨rfl, rfl, rfl, by decide +kernel, rfl, by decide +kernel, by decide +kernel⟩
abbrev N_turn_once : List Str := ["shape", "k", "row"]
abbrev P_turn_once : List Str := ["shape"]
theorem sc_turn_once : FnScope N_turn_once P_turn_once (defScope s_turn_once) := ⟨rfl, rfl, rfl, by decide +kernel, rfl, by decide +kernel, by decide +kernel⟩
abbrev N_turned : List Str := ["shape", "many", "k"]
abbrev P_turned : List Str := ["shape", "many"]
theorem sc_turned : FnScope N_turned P_turned (defScope s_turned) := ⟨rfl, rfl, rfl, by decide +kernel, rfl, by decide +kernel, by decide +kernel⟩
abbrev N_cells : List Str := ["shape", "found", "row", "column"]
abbrev P_cells : List Str := ["shape"]
theorem sc_cells : FnScope N_cells P_cells (defScope s_cells) := ⟨rfl, rfl, rfl, by decide +kernel, rfl, by decide +kernel, by decide +kernel⟩
abbrev N_turns_of : List Str := ["shape", "found", "many", "other"]
abbrev P_turns_of : List Str := ["shape"]
theorem sc_turns_of : FnScope N_turns_of P_turns_of (defScope s_turns_of) := ⟨rfl, rfl, rfl, by decide +kernel, rfl, by decide +kernel, by decide +kernel⟩
abbrev N_look_packing : List Str := ["shapes", "rows", "columns", "most"]
abbrev P_look_packing : List Str := ["shapes", "rows", "columns", "most"]
theorem sc_look_packing : FnScope N_look_packing P_look_packing (defScope s_look_packing) := ⟨rfl, rfl, rfl, by decide +kernel, rfl, by decide +kernel, by decide +kernel⟩
abbrev N_spots : List Str := ["shape", "rows", "columns", "may_turn", "found", "row", "column", "turn", "some", "down", "right"]
abbrev P_spots : List Str := ["shape", "rows", "columns", "may_turn"]
theorem sc_spots : FnScope N_spots P_spots (defScope s_spots) := ⟨rfl, rfl, rfl, by decide +kernel, rfl, by decide +kernel, by decide +kernel⟩
abbrev N_packing : List Str := ["shapes", "rows", "columns", "may_turn", "every", "shape"]
abbrev P_packing : List Str := ["shapes", "rows", "columns", "may_turn"]
theorem sc_packing : FnScope N_packing P_packing (defScope s_packing) := ⟨rfl, rfl, rfl, by decide +kernel, rfl, by decide +kernel, by decide +kernel⟩
abbrev N_laid : List Str := ["every", "taken", "row", "column", "turn", "some", "later", "cell", "found"]
abbrev P_laid : List Str := ["every", "taken"]
theorem sc_laid : FnScope N_laid P_laid (defScope s_laid) := ⟨rfl, rfl, rfl, by decide +kernel, rfl, by decide +kernel, by decide +kernel⟩
abbrev N_ways : List Str := ["shapes", "rows", "columns", "may_turn", "shape"]
abbrev P_ways : List Str := ["shapes", "rows", "columns", "may_turn"]
theorem sc_ways : FnScope N_ways P_ways (defScope s_ways) := ⟨rfl, rfl, rfl, by decide +kernel, rfl, by decide +kernel, by decide +kernel⟩
abbrev N_count_ways : List Str := ["every", "taken", "found", "row", "column", "turn", "some", "later", "cell"]
abbrev P_count_ways : List Str := ["every", "taken"]
theorem sc_count_ways : FnScope N_count_ways P_count_ways (defScope s_count_ways) := ⟨rfl, rfl, rfl, by decide +kernel, rfl, by decide +kernel, by decide +kernel⟩
abbrev N_Pile_init : List Str := ["self", "kind", "many", "turn", "row", "column"]
abbrev P_Pile_init : List Str := ["self", "kind", "many", "turn", "row", "column"]
theorem sc_Pile_init : FnScope N_Pile_init P_Pile_init (defScope s_Pile_init) := ⟨rfl, rfl, rfl, by decide +kernel, rfl, by decide +kernel, by decide +kernel⟩
abbrev N_Pile_told : List Str := ["self"]
abbrev P_Pile_told : List Str := ["self"]
theorem sc_Pile_told : FnScope N_Pile_told P_Pile_told (defScope s_Pile_told) := ⟨rfl, rfl, rfl, by decide +kernel, rfl, by decide +kernel, by decide +kernel⟩
abbrev N_Bag_init : List Str := ["self", "book", "rows", "columns"]
abbrev P_Bag_init : List Str := ["self", "book", "rows", "columns"]
theorem sc_Bag_init : FnScope N_Bag_init P_Bag_init (defScope s_Bag_init) := ⟨rfl, rfl, rfl, by decide +kernel, rfl, by decide +kernel, by decide +kernel⟩
abbrev N_Bag_cells_of : List Str := ["self", "kind", "turn", "row", "column", "some", "down", "right"]
abbrev P_Bag_cells_of : List Str := ["self", "kind", "turn", "row", "column"]
theorem sc_Bag_cells_of : FnScope N_Bag_cells_of P_Bag_cells_of (defScope s_Bag_cells_of) := ⟨rfl, rfl, rfl, by decide +kernel, rfl, by decide +kernel, by decide +kernel⟩
abbrev N_Bag_is_free : List Str := ["self", "some", "but", "row", "column"]
abbrev P_Bag_is_free : List Str := ["self", "some", "but"]
theorem sc_Bag_is_free : FnScope N_Bag_is_free P_Bag_is_free (defScope s_Bag_is_free) := ⟨rfl, rfl, rfl, by decide +kernel, rfl, by decide +kernel, by decide +kernel⟩
abbrev N_Bag_fits : List Str := ["self", "kind", "turn", "row", "column"]
abbrev P_Bag_fits : List Str := ["self", "kind", "turn", "row", "column"]
theorem sc_Bag_fits : FnScope N_Bag_fits P_Bag_fits (defScope s_Bag_fits) := ⟨rfl, rfl, rfl, by decide +kernel, rfl, by decide +kernel, by decide +kernel⟩
abbrev N_Bag_look_many : List Str := ["self", "kind", "many"]
abbrev P_Bag_look_many : List Str := ["self", "kind", "many"]
theorem sc_Bag_look_many : FnScope N_Bag_look_many P_Bag_look_many (defScope s_Bag_look_many) := ⟨rfl, rfl, rfl, by decide +kernel, rfl, by decide +kernel, by decide +kernel⟩
abbrev N_Bag_lay : List Str := ["self", "number", "pile", "cell"]
abbrev P_Bag_lay : List Str := ["self", "number", "pile"]
theorem sc_Bag_lay : FnScope N_Bag_lay P_Bag_lay (defScope s_Bag_lay) := ⟨rfl, rfl, rfl, by decide +kernel, rfl, by decide +kernel, by decide +kernel⟩
abbrev N_Bag_lift : List Str := ["self", "number", "pile", "cell"]
abbrev P_Bag_lift : List Str := ["self", "number"]
theorem sc_Bag_lift : FnScope N_Bag_lift P_Bag_lift (defScope s_Bag_lift) := ⟨rfl, rfl, rfl, by decide +kernel, rfl, by decide +kernel, by decide +kernel⟩
abbrev N_Bag_put : List Str := ["self", "kind", "many", "turn", "row", "column"]
abbrev P_Bag_put : List Str := ["self", "kind", "many", "turn", "row", "column"]
theorem sc_Bag_put : FnScope N_Bag_put P_Bag_put (defScope s_Bag_put) := ⟨rfl, rfl, rfl, by decide +kernel, rfl, by decide +kernel, by decide +kernel⟩
abbrev N_Bag_need : List Str := ["self", "number"]
abbrev P_Bag_need : List Str := ["self", "number"]
theorem sc_Bag_need : FnScope N_Bag_need P_Bag_need (defScope s_Bag_need) := ⟨rfl, rfl, rfl, by decide +kernel, rfl, by decide +kernel, by decide +kernel⟩
abbrev N_Bag_pile : List Str := ["self", "number"]
abbrev P_Bag_pile : List Str := ["self", "number"]
theorem sc_Bag_pile : FnScope N_Bag_pile P_Bag_pile (defScope s_Bag_pile) := ⟨rfl, rfl, rfl, by decide +kernel, rfl, by decide +kernel, by decide +kernel⟩
abbrev N_Bag_numbers : List Str := ["self"]
abbrev P_Bag_numbers : List Str := ["self"]
theorem sc_Bag_numbers : FnScope N_Bag_numbers P_Bag_numbers (defScope s_Bag_numbers) := ⟨rfl, rfl, rfl, by decide +kernel, rfl, by decide +kernel, by decide +kernel⟩
abbrev N_Bag_place_of : List Str := ["self", "number", "pile"]
abbrev P_Bag_place_of : List Str := ["self", "number"]
theorem sc_Bag_place_of : FnScope N_Bag_place_of P_Bag_place_of (defScope s_Bag_place_of) := ⟨rfl, rfl, rfl, by decide +kernel, rfl, by decide +kernel, by decide +kernel⟩
abbrev N_Bag_at : List Str := ["self", "row", "column"]
abbrev P_Bag_at : List Str := ["self", "row", "column"]
theorem sc_Bag_at : FnScope N_Bag_at P_Bag_at (defScope s_Bag_at) := ⟨rfl, rfl, rfl, by decide +kernel, rfl, by decide +kernel, by decide +kernel⟩
abbrev N_Bag_take : List Str := ["self", "number", "many"]
abbrev P_Bag_take : List Str := ["self", "number", "many"]
theorem sc_Bag_take : FnScope N_Bag_take P_Bag_take (defScope s_Bag_take) := ⟨rfl, rfl, rfl, by decide +kernel, rfl, by decide +kernel, by decide +kernel⟩
abbrev N_Bag_pile_up : List Str := ["self", "number", "kind", "many", "more"]
abbrev P_Bag_pile_up : List Str := ["self", "number", "kind", "many"]
theorem sc_Bag_pile_up : FnScope N_Bag_pile_up P_Bag_pile_up (defScope s_Bag_pile_up) := ⟨rfl, rfl, rfl, by decide +kernel, rfl, by decide +kernel, by decide +kernel⟩
abbrev N_Bag_join : List Str := ["self", "number", "other", "left"]
abbrev P_Bag_join : List Str := ["self", "number", "other"]
theorem sc_Bag_join : FnScope N_Bag_join P_Bag_join (defScope s_Bag_join) := ⟨rfl, rfl, rfl, by decide +kernel, rfl, by decide +kernel, by decide +kernel⟩
abbrev N_Bag_weight : List Str := ["self", "pile"]
abbrev P_Bag_weight : List Str := ["self"]
theorem sc_Bag_weight : FnScope N_Bag_weight P_Bag_weight (defScope s_Bag_weight) := ⟨rfl, rfl, rfl, by decide +kernel, rfl, by decide +kernel, by decide +kernel⟩
abbrev N_Bag_free : List Str := ["self"]
abbrev P_Bag_free : List Str := ["self"]
theorem sc_Bag_free : FnScope N_Bag_free P_Bag_free (defScope s_Bag_free) := ⟨rfl, rfl, rfl, by decide +kernel, rfl, by decide +kernel, by decide +kernel⟩
abbrev N_look_name : List Str := ["name", "sign"]
abbrev P_look_name : List Str := ["name"]
theorem sc_look_name : FnScope N_look_name P_look_name (defScope s_look_name) := ⟨rfl, rfl, rfl, by decide +kernel, rfl, by decide +kernel, by decide +kernel⟩
abbrev N_Book_init : List Str := ["self"]
abbrev P_Book_init : List Str := ["self"]
theorem sc_Book_init : FnScope N_Book_init P_Book_init (defScope s_Book_init) := ⟨rfl, rfl, rfl, by decide +kernel, rfl, by decide +kernel, by decide +kernel⟩
abbrev N_Book_add : List Str := ["self", "name", "shape", "most", "may_turn", "weight", "tags", "tag"]
abbrev P_Book_add : List Str := ["self", "name", "shape", "most", "may_turn", "weight", "tags"]
theorem sc_Book_add : FnScope N_Book_add P_Book_add (defScope s_Book_add) := ⟨rfl, rfl, rfl, by decide +kernel, rfl, by decide +kernel, by decide +kernel⟩
abbrev N_Book_need : List Str := ["self", "name"]
abbrev P_Book_need : List Str := ["self", "name"]
theorem sc_Book_need : FnScope N_Book_need P_Book_need (defScope s_Book_need) := ⟨rfl, rfl, rfl, by decide +kernel, rfl, by decide +kernel, by decide +kernel⟩
abbrev N_Book_names : List Str := ["self"]
abbrev P_Book_names : List Str := ["self"]
theorem sc_Book_names : FnScope N_Book_names P_Book_names (defScope s_Book_names) := ⟨rfl, rfl, rfl, by decide +kernel, rfl, by decide +kernel, by decide +kernel⟩
abbrev N_Book_shape : List Str := ["self", "name"]
abbrev P_Book_shape : List Str := ["self", "name"]
theorem sc_Book_shape : FnScope N_Book_shape P_Book_shape (defScope s_Book_shape) := ⟨rfl, rfl, rfl, by decide +kernel, rfl, by decide +kernel, by decide +kernel⟩
abbrev N_Book_most : List Str := ["self", "name"]
abbrev P_Book_most : List Str := ["self", "name"]
theorem sc_Book_most : FnScope N_Book_most P_Book_most (defScope s_Book_most) := ⟨rfl, rfl, rfl, by decide +kernel, rfl, by decide +kernel, by decide +kernel⟩
abbrev N_Book_turns : List Str := ["self", "name"]
abbrev P_Book_turns : List Str := ["self", "name"]
theorem sc_Book_turns : FnScope N_Book_turns P_Book_turns (defScope s_Book_turns) := ⟨rfl, rfl, rfl, by decide +kernel, rfl, by decide +kernel, by decide +kernel⟩
abbrev N_Book_weight : List Str := ["self", "name"]
abbrev P_Book_weight : List Str := ["self", "name"]
theorem sc_Book_weight : FnScope N_Book_weight P_Book_weight (defScope s_Book_weight) := ⟨rfl, rfl, rfl, by decide +kernel, rfl, by decide +kernel, by decide +kernel⟩
abbrev N_first_place : List Str := ["bag", "kind", "row", "column", "turn"]
abbrev P_first_place : List Str := ["bag", "kind"]
theorem sc_first_place : FnScope N_first_place P_first_place (defScope s_first_place) := ⟨rfl, rfl, rfl, by decide +kernel, rfl, by decide +kernel, by decide +kernel⟩
abbrev N_look_many : List Str := ["many"]
abbrev P_look_many : List Str := ["many"]
theorem sc_look_many : FnScope N_look_many P_look_many (defScope s_look_many) := ⟨rfl, rfl, rfl, by decide +kernel, rfl, by decide +kernel, by decide +kernel⟩
abbrev N_add : List Str := ["bag", "kind", "many", "number", "place", "some"]
abbrev P_add : List Str := ["bag", "kind", "many"]
theorem sc_add : FnScope N_add P_add (defScope s_add) := ⟨rfl, rfl, rfl, by decide +kernel, rfl, by decide +kernel, by decide +kernel⟩
abbrev N_law_cell : List Str := ["script", "k"]
abbrev P_law_cell : List Str := ["script", "k"]
theorem sc_law_cell : FnScope N_law_cell P_law_cell (defScope s_law_cell) := ⟨rfl, rfl, rfl, by decide +kernel, rfl, by decide +kernel, by decide +kernel⟩
abbrev N_law_mix : List Str := ["script", "k", "number"]
abbrev P_law_mix : List Str := ["script", "k"]
theorem sc_law_mix : FnScope N_law_mix P_law_mix (defScope s_law_mix) := ⟨rfl, rfl, rfl, by decide +kernel, rfl, by decide +kernel, by decide +kernel⟩
abbrev N_law_draw : List Str := ["script", "town", "many"]
abbrev P_law_draw : List Str := ["script", "town", "many"]
theorem sc_law_draw : FnScope N_law_draw P_law_draw (defScope s_law_draw) := ⟨rfl, rfl, rfl, by decide +kernel, rfl, by decide +kernel, by decide +kernel⟩
abbrev N_law_shape : List Str := ["script", "town", "most", "high", "wide", "marks", "row", "column", "rows", "columns", "found", "some", "one"]
abbrev P_law_shape : List Str := ["script", "town", "most"]
theorem sc_law_shape : FnScope N_law_shape P_law_shape (defScope s_law_shape) := ⟨rfl, rfl, rfl, by decide +kernel, rfl, by decide +kernel, by decide +kernel⟩
abbrev N_law : List Str := ["script", "town", "shapes", "rows", "columns", "may_turn", "found", "book", "k", "bag", "many", "turn", "row", "column", "fresh", "left", "shape"]
abbrev P_law : List Str := ["script"]
theorem sc_law : FnScope N_law P_law (defScope s_law) := ⟨rfl, rfl, rfl, by decide +kernel, rfl, by decide +kernel, by decide +kernel⟩
abbrev msShapes : Str := "MOST_SIDE_shapes"
end T
-- built-ins: ValueError all any int len max min range set sorted sum tuple
end

section
set_option Elab.async false
set_option linter.all false
set_option maxRecDepth 100000
set_option maxHeartbeats 4000000
namespace G
open PySem PySem.Spec PyProof.Rows L2

/-! ### what the top has left: an own exception; a def -/
structure ExcT (K : PySem.W.Frag) (mg : Str → Option Value) (CA : Str → Addr) (x : Str) : Prop where
  q : PySem.W.excIn K (CA x) [.type "ValueError", .type "Exception", .type "BaseException", .type "object"] "ValueError.__new__" = true
  g : mg x = some (.ref (CA x))
  k : PySem.W.keepIn K (.ref (CA x)) = true
  s : PySem.W.subIn K (.ref (CA x)) (.type "BaseException") = some true
  t : PySem.W.typeIn K (.ref (CA x)) = some (.type "type")
def DefT (K : PySem.W.Frag) (mg : Str → Option Value) (x : Str) (st : Stmt) : Prop := ∃ f fd, FunD K x x (defArgs st) (defBody st) (defScope st) [] [] f fd ∧ mg x = some (.ref f)
theorem s_raiseT {X : Cx} {CA : Str → Addr} {Y : Wd} {ρ : Rho} {w : Y.W} {O : Out Y.W} {x mm : Str} {j : Nat} {pos p1 p2 p3 : Pos} (T : ExcT X.K X.mg CA x) (hc : X.calm = true) (h : O.ex x ρ w) (hg : Gl X x := by rfl) (hdb : (x == ("__debug__" : Str)) = false := by decide) :
    S1 X CA Y ρ w (.Raise (some (.Call (.Name x p1) [.Constant (.str mm) j p2] [] p3)) none pos) O := s_raise hc PySem.F.excBase_ValueError T.q T.g T.k (raises_own T.s T.t) rfl h hg hdb
theorem mkFn {P : Program} {w : World} {K : PySem.W.Frag} {mg : Str → Option Value} {base : Heap} {x : Str} {st : Stmt} {ps : List Str} {k : Nat} {sp : Sp} (D : DefT K mg x st)
    (h : ∀ f fd, FunD K x x (defArgs st) (defBody st) (defScope st) [] [] f fd → FnOk P w K mg base (L2.CX P w) k f fd ps sp)
    (hb : ∀ (kV doc pm : Value) (an : Option Addr) (cdv ct : Value) (us : List Value), us.length = ps.length → bindArgs (PySem.W.fnOf x x (defArgs st) (defBody st) (defScope st) .none kV doc pm an cdv ct) ⟨us, []⟩ = pure (ps.zip us)) : FnF P w K mg base k x sp := by
  obtain ⟨f, fd, Fd, hm⟩ := D
  exact ⟨f, fd, ps, h f fd Fd, hm, Fd.kp, Fd.bindsN hb⟩
end G

/-! ### shapes: rows of texts -/
namespace Sh
open PySem
abbrev cs (z : Str) : List Nat := z.cps.toList
def shD (rows : List Str) : PyData := .tuple (rows.map PyData.str)
/-- a sign of a row, by a place from either side -/
def isC (z : Str) (i : Int) : Bool := decide (L2.atI (cs z) i = some 35)
def g1 (rows : List Str) : Bool := match rows with
  | [] => false
  | r0 :: _ => (decide ((1 : Int) ≤ rows.length) && decide ((rows.length : Int) ≤ 4)) && (decide ((1 : Int) ≤ r0.length) && decide ((r0.length : Int) ≤ 4))
def g2 (rows : List Str) : Bool := match rows with
  | [] => true
  | r0 :: _ => rows.all fun r => decide (r.length = r0.length)
def g3 (rows : List Str) : Bool := rows.all fun r => (cs r).all fun c => decide (c = 35) || decide (c = 46)
def g4 (rows : List Str) : Bool := match rows with
  | [] => true
  | r0 :: rest => decide (35 ∈ cs r0) && decide (35 ∈ cs ((r0 :: rest).getLast (by simp)))
def g5 (rows : List Str) : Bool := (rows.any fun r => isC r 0) && rows.any fun r => isC r (-1)
def goodS (rows : List Str) : Bool := g1 rows && (g2 rows && (g3 rows && (g4 rows && g5 rows)))
end Sh

namespace G
open PySem PySem.Spec PyProof.Rows L2 Sh
structure TxtS (K : PySem.W.Frag) (mg : Str → Option Value) (CA : Str → Addr) : Prop where
  len : mg "len" = none
  all : mg "all" = none
  any : mg "any" = none
  range : mg "range" = none
  tuple : mg "tuple" = none
  ms : ∃ t, mg T.msShapes = some (.int 4 t)
  cell : ∃ t, mg "CELL" = some (.str "#" t)
  gap : ∃ t, mg "GAP" = some (.str "." t)
  bad : ExcT K mg CA "BadShape"
  d_look : DefT K mg "look_shape" T.s_look_shape

def relLook : List PyData → Res → Prop := fun ds o => ∃ rows : List Str, ds = [shD rows] ∧ rows.length ≤ 100 ∧ (∀ r ∈ rows, r.length ≤ 100) ∧ o = if goodS rows then .ok .none else .ex "BadShape"
section
variable {P : Program} {w : World} {K : PySem.W.Frag} {mg : Str → Option Value} {base : Heap} {CA : Str → Addr}
theorem in_two (c : Nat) : decide ((⟨#[c]⟩ : Str) ∈ ([("#" : Str), ("." : Str)] : List Str)) = (decide (c = 35) || decide (c = 46)) := by
  have e1 : ("#" : Str) = ⟨#[35]⟩ := by decide +kernel
  have e2 : ("." : Str) = ⟨#[46]⟩ := by decide +kernel
  rw [e1, e2]
  by_cases h1 : c = 35
  · subst h1
    simp
  · by_cases h2 : c = 46
    · subst h2
      simp
    · simp [h1, h2]
theorem joinL_nil : ∀ l : List (List Nat), TL.joinL [] l = l.flatten
  | [] => rfl
  | [a] => by simp [TL.joinL]
  | a :: b :: r => by
    have ih := joinL_nil (b :: r)
    simp only [TL.joinL] at ih ⊢
    rw [ih]
    simp
theorem cs_join (rows : List Str) : cs (Txt.join (Str.ofString "") rows) = (rows.map cs).flatten := by
  have e := TL.tl_join (Str.ofString "") rows
  rw [← TL.join_eq] at e
  have e2 : TL.tl (Str.ofString "") = [] := by decide +kernel
  rw [e2, joinL_nil] at e
  exact e
theorem sum_len : ∀ rows : List Str, (∀ r ∈ rows, r.length ≤ 100) → (rows.map (·.length)).sum ≤ 100 * rows.length
  | [], _ => by simp
  | r :: rs, h => by
    have h1 := h r List.mem_cons_self
    have h2 := sum_len rs fun z hz => h z (List.mem_cons_of_mem _ hz)
    simp only [List.map_cons, List.sum_cons, List.length_cons]
    omega
theorem join_fits {rows : List Str} (hl : rows.length ≤ 100) (hr : ∀ r ∈ rows, r.length ≤ 100) : (rows.map (·.length)).sum + rows.length * (Str.ofString "").length ≤ 16777216 := by
  have h1 := sum_len rows hr
  have e2 : (Str.ofString "").length = 0 := by decide +kernel
  rw [e2]
  omega
theorem dec_cast (a b : Nat) : decide ((a : Int) = (b : Int)) = decide (a = b) := by
  by_cases h : a = b
  · subst h
    simp
  · rw [decide_eq_false h, decide_eq_false (by omega)]
theorem small {n : Nat} (h : n ≤ 100) : n ≤ sizeLine := Nat.le_trans h (by decide)
theorem hash_eq : ("#" : Str) = ⟨#[35]⟩ := by decide +kernel
theorem ok_look (t : TxtS K mg CA) : FnF P w K mg base 1 "look_shape" (lift CA (pmD relLook)) := by
  refine mkFn t.d_look (ps := T.P_look_shape) (fun f fd Fd => fn_data Fd T.sc_look_shape (fun ds o h => ?_) fun cdv A outer s H E R0 hr ds o h => ?_) fun _ _ _ _ _ _ us hl => match us, hl with | [_], _ => rfl
  · obtain ⟨rows, rfl, _⟩ := h
    rfl
  · obtain ⟨rows, rfl, hl, hr1, rfl⟩ := h
    have nd := T.sc_look_shape.nd
    -- good = ..
    refine sb_cons (s_asg 1 nd (Ev.s (d := .bool (g1 rows)) ?_ ?_))
    · cases rows with
      | nil =>
        exact (ev_and (v' := false) (ev_lele ev_int (ev_lenT t.len (ev_var 0)) (ev_gint t.ms)) (fun h => by simp at h)).is (by simp [g1])
      | cons r0 rest =>
        exact (ev_and (ev_lele ev_int (ev_lenT t.len (ev_var 0)) (ev_gint t.ms)) (fun h => ev_one (ev_lele ev_int (ev_lenS t.len (ev_ixT (ev_var 0) ev_int (atI_zero _ _)) (Nat.le_trans (hr1 r0 List.mem_cons_self) (by decide))) (ev_gint t.ms)))).is (by simp [g1])
    cases rows with
    | nil =>
      refine sb_yes (et_or (v' := false) (et_not (et_val (ev_var 1))) (fun h => by simp [g1] at h)) rfl ?_
      exact sb_one (s_raiseT t.bad rfl rfl)
    | cons r0 rest =>
      have h0 := hr1 r0 List.mem_cons_self
      refine sb_when (v := !g1 (r0 :: rest) || !g2 (r0 :: rest)) (et_or (et_not (et_val (ev_var 1))) (fun h => et_not (et_val (ev_allF rfl t.all (ev_lcp (own := [("row", 2)]) rfl nd (blkOk_by (N := T.N_look_shape) (sc := defScope T.s_look_shape) (by decide +kernel))
        (lc_map (r0 :: rest) PyData.str (fun r => .bool (decide (r.length = r0.length))) (fun r => _) (ei_tup (ev_var 0)).c (Nat.lt_of_le_of_lt hl (by decide)) (fun _ _ _ _ _ r hx => tg_name 2 nd (by decide))
          (fun _ _ _ _ _ r hx => (ev_eqI (ev_lenS t.len (ev_var 2) (small (hr1 r hx))) (ev_lenS t.len (ev_ixT (ev_var 0) ev_int (atI_zero _ _)) (small h0))).is (by rw [dec_cast])))))))) (fun h => ?_) (fun h => ?_)
      · refine sb_one (s_raiseT t.bad rfl ?_)
        have e : goodS (r0 :: rest) = false := by
          unfold goodS
          cases q1 : g1 (r0 :: rest) <;> cases q2 : g2 (r0 :: rest) <;> simp_all
        show (if goodS (r0 :: rest) then Res.ok .none else Res.ex "BadShape") = .ex "BadShape"
        rw [e]
        rfl
      have q1 : g1 (r0 :: rest) = true := by simpa using (Bool.or_eq_false_iff.mp h).1
      have q2 : g2 (r0 :: rest) = true := by simpa using (Bool.or_eq_false_iff.mp h).2
      refine sb_when (v := !g3 (r0 :: rest)) (et_not (EvT.is (et_val (ev_allF rfl t.all (ev_lcp (own := [("sign", 3)]) rfl nd (blkOk_by (N := T.N_look_shape) (sc := defScope T.s_look_shape) (by decide +kernel))
        (lc_map (cs (Txt.join (Str.ofString "") (r0 :: rest))) (fun c => .str ⟨#[c]⟩) (fun c => .bool (decide (c = 35) || decide (c = 46))) (fun c => _) (ei_str (ev_joinT ev_str (ev_var 0) (join_fits hl hr1))).c ?_ (fun _ _ _ _ _ r hx => tg_name 3 nd (by decide))
          (fun _ _ _ _ _ r hx => (ev_inT (zs := [("#" : Str), ("." : Str)]) (ev_var 3) (ev_tup (ea_cons (ev_gstr t.cell) (ea_cons (ev_gstr t.gap) ea_nil)))).is (by rw [in_two])))))) ?_)) (fun h => ?_) (fun h => ?_)
      · rw [cs_join, List.length_flatten, List.map_map]
        have := sum_len _ hr1
        have e : (List.length ∘ cs : Str → Nat) = fun r => r.length := by
          funext r
          exact (TL.len_tl r).symm
        rw [e]
        exact Nat.lt_of_le_of_lt (Nat.le_trans this (Nat.mul_le_mul_left 100 hl)) (by decide)
      · rw [cs_join, List.all_flatten, List.all_map]
        rfl
      · refine sb_one (s_raiseT t.bad rfl ?_)
        have e : goodS (r0 :: rest) = false := by
          unfold goodS
          cases q1 : g3 (r0 :: rest) <;> simp_all
        show (if goodS (r0 :: rest) then Res.ok .none else Res.ex "BadShape") = .ex "BadShape"
        rw [e]
        rfl
      have q3 : g3 (r0 :: rest) = true := by simpa using h
      have hl' := hr1 ((r0 :: rest).getLast (by simp)) (List.getLast_mem _)
      refine sb_when (v := !g4 (r0 :: rest)) (et_not (EvT.is (et_val (ev_allF rfl t.all (ev_lcp (own := [("row", 2)]) rfl nd (blkOk_by (N := T.N_look_shape) (sc := defScope T.s_look_shape) (by decide +kernel))
        (lc_map [r0, (r0 :: rest).getLast (by simp)] PyData.str (fun r => .bool (decide (35 ∈ cs r))) (fun r => _) (ei_tup (ev_tup (ea_cons (ev_ixT (ev_var 0) ev_int (atI_zero _ _)) (ea_cons (ev_ixT (ev_var 0) (ev_neg ev_int) ?_) ea_nil)))).c (by simp only [List.length_cons, List.length_nil]; decide) (fun _ _ _ _ _ r hx => tg_name 2 nd (by decide))
          (fun _ _ _ _ _ r hx => ev_inC (Ev.is (ev_gstr t.cell) (by rw [hash_eq])) (ev_var 2)))))) ?_)) (fun h => ?_) (fun h => ?_)
      · rw [atI_map, atI_neg _ (by simp)]
        rfl
      · simp [g4]
      · refine sb_one (s_raiseT t.bad rfl ?_)
        have e : goodS (r0 :: rest) = false := by
          unfold goodS
          cases q1 : g4 (r0 :: rest) <;> simp_all
        show (if goodS (r0 :: rest) then Res.ok .none else Res.ex "BadShape") = .ex "BadShape"
        rw [e]
        rfl
      have q4 : g4 (r0 :: rest) = true := by simpa using h
      refine sb_when (v := !g5 (r0 :: rest)) (et_not (EvT.is (et_val (ev_allF rfl t.all (ev_lcp (own := [("k", 4)]) rfl nd (blkOk_by (N := T.N_look_shape) (sc := defScope T.s_look_shape) (by decide +kernel))
        (lc_map [(0 : Int), -1] PyData.int (fun k => .bool ((r0 :: rest).any fun r => isC r k)) (fun k => _) (ei_tup (ev_tup (ea_cons ev_int (ea_cons (ev_neg ev_int) ea_nil)))).c (by decide) (fun _ _ _ _ _ r hx => tg_name 4 nd (by decide))
          (fun _ _ _ _ _ k hk => ?_))))) ?_)) (fun h => ?_) (fun h => ?_)
      · have hlen : ∀ r ∈ (r0 :: rest), r.length = r0.length := fun r hr => by
          have := List.all_eq_true.mp q2 r hr
          simpa using this
        have h1 : 1 ≤ r0.length := by
          have := (Bool.and_eq_true_iff.mp (Bool.and_eq_true_iff.mp q1).2).1
          have := of_decide_eq_true this
          omega
        have hat : ∀ r ∈ (r0 :: rest), ∃ n, atI (cs r) k = some n := fun r hr => by
          have hne : cs r ≠ [] := fun z => by
            have h2 := TL.len_tl r
            have h3 := hlen r hr
            rw [show TL.tl r = [] from z] at h2
            simp at h2
            omega
          simp only [List.mem_cons, List.not_mem_nil, or_false] at hk
          rcases hk with rfl | rfl
          · cases e : cs r with
            | nil => exact (hne e).elim
            | cons n ns => exact ⟨n, atI_zero _ _⟩
          · exact ⟨_, atI_neg _ hne⟩
        refine ev_anyF rfl t.any (ev_lcp (own := [("row", 2)]) rfl nd (blkOk_in T.N_look_shape (defScope T.s_look_shape) (by decide +kernel))
          (lc_map (r0 :: rest) PyData.str (fun r => .bool (isC r k)) (fun r => _) (ei_tup (ev_var 0)).c (Nat.lt_of_le_of_lt hl (by decide)) (fun _ _ _ _ _ r hx => tg_name 2 nd (by decide)) (fun _ _ _ _ _ r hx => ?_)))
        obtain ⟨n, hn⟩ := hat r hx
        refine (ev_eqS (ev_ixS (ev_var 2) (ev_var 4) hn (small (hr1 r hx))) (ev_gstr t.cell)).is ?_
        unfold isC
        rw [hn, hash_eq]
        simp
      · simp [g5]
      · refine sb_one (s_raiseT t.bad rfl ?_)
        have e : goodS (r0 :: rest) = false := by
          unfold goodS
          cases q1 : g5 (r0 :: rest) <;> simp_all
        show (if goodS (r0 :: rest) then Res.ok .none else Res.ex "BadShape") = .ex "BadShape"
        rw [e]
        rfl
      have q5 : g5 (r0 :: rest) = true := by simpa using h
      refine sb_nil ?_
      have e : goodS (r0 :: rest) = true := by
        unfold goodS
        rw [q1, q2, q3, q4, q5]
        rfl
      show (if goodS (r0 :: rest) then Res.ok .none else Res.ex "BadShape") = .ok .none
      rw [e]
      rfl
end
end G
end

section
set_option Elab.async false
set_option linter.all false
set_option maxRecDepth 100000
set_option maxHeartbeats 4000000
namespace Sh
open PySem
/-! good shapes pass the look -/
theorem enc_len (m : Mx) : m.enc.length = m.h := by simp [Mx.enc]
theorem enc_get {m : Mx} {r : Nat} (h : r < m.h) : m.enc[r]? = some (Mx.rowS m.w (m.f r)) := by
  simp [Mx.enc, List.getElem?_range h]
theorem enc_mem {m : Mx} {z : Str} (h : z ∈ m.enc) : ∃ r, r < m.h ∧ z = Mx.rowS m.w (m.f r) := by
  obtain ⟨r, h1, h2⟩ := List.mem_map.mp h
  exact ⟨r, List.mem_range.mp h1, h2.symm⟩
theorem enc_cons {m : Mx} (g : m.Good) : ∃ rest, m.enc = Mx.rowS m.w (m.f 0) :: rest := by
  have h := enc_get (m := m) (r := 0) (by have := g.h1; omega)
  cases e : m.enc with
  | nil =>
    rw [e] at h
    cases h
  | cons a l =>
    rw [e] at h
    simp at h
    exact ⟨l, by rw [h]⟩
theorem rowS_mem {w : Nat} {g : Nat → Bool} : 35 ∈ cs (Mx.rowS w g) ↔ ∃ c, c < w ∧ g c = true := by
  rw [show cs (Mx.rowS w g) = _ from Mx.rowS_cs w g]
  constructor
  · intro h
    obtain ⟨c, h1, h2⟩ := List.mem_map.mp h
    refine ⟨c, List.mem_range.mp h1, ?_⟩
    cases q : g c with
    | true => rfl
    | false =>
      rw [q] at h2
      simp at h2
  · rintro ⟨c, h1, h2⟩
    exact List.mem_map.mpr ⟨c, List.mem_range.mpr h1, by simp [h2]⟩
theorem rowS_at {w : Nat} {g : Nat → Bool} {c : Nat} (h : c < w) : (cs (Mx.rowS w g))[c]? = some (if g c then 35 else 46) := by
  rw [show cs (Mx.rowS w g) = _ from Mx.rowS_cs w g, List.getElem?_map, List.getElem?_range h]
  rfl
theorem goodS_enc {m : Mx} (g : m.Good) : goodS m.enc = true := by
  obtain ⟨rest, e⟩ := enc_cons g
  have hl := enc_len m
  have p1 : g1 m.enc = true := by
    rw [e]
    show ((decide ((1 : Int) ≤ (Mx.rowS m.w (m.f 0) :: rest).length) && decide (((Mx.rowS m.w (m.f 0) :: rest).length : Int) ≤ 4)) && (decide ((1 : Int) ≤ (Mx.rowS m.w (m.f 0)).length) && decide (((Mx.rowS m.w (m.f 0)).length : Int) ≤ 4))) = true
    rw [← e, hl, Mx.rowS_len]
    have := g.h1
    have := g.h4
    have := g.w1
    have := g.w4
    simp only [Bool.and_eq_true, decide_eq_true_eq]
    omega
  have p2 : g2 m.enc = true := by
    rw [e]
    show ((Mx.rowS m.w (m.f 0) :: rest).all fun r => decide (r.length = (Mx.rowS m.w (m.f 0)).length)) = true
    rw [← e]
    refine List.all_eq_true.mpr fun z hz => ?_
    obtain ⟨r, _, rfl⟩ := enc_mem hz
    rw [Mx.rowS_len, Mx.rowS_len]
    simp
  have p3 : g3 m.enc = true := by
    refine List.all_eq_true.mpr fun z hz => List.all_eq_true.mpr fun c hc => ?_
    obtain ⟨r, _, rfl⟩ := enc_mem hz
    rw [show cs (Mx.rowS m.w (m.f r)) = _ from Mx.rowS_cs _ _] at hc
    obtain ⟨k, _, h2⟩ := List.mem_map.mp hc
    subst h2
    cases m.f r k <;> rfl
  have p4 : g4 m.enc = true := by
    have hlast : ∀ h, m.enc.getLast h = Mx.rowS m.w (m.f (m.h - 1)) := fun h => by
      have h1 := List.getLast_eq_getElem h
      have h2 := enc_get (m := m) (r := m.h - 1) (by have := g.h1; omega)
      rw [List.getElem?_eq_some_iff] at h2
      obtain ⟨h3, h4⟩ := h2
      rw [h1]
      simp only [hl]
      exact h4
    have e4 : g4 m.enc = (decide (35 ∈ cs (Mx.rowS m.w (m.f 0))) && decide (35 ∈ cs (Mx.rowS m.w (m.f (m.h - 1))))) := by
      have hne : m.enc ≠ [] := by
        rw [e]
        simp
      rw [← hlast hne]
      clear hlast
      revert hne
      rw [e]
      intro hne
      rfl
    rw [e4, Bool.and_eq_true]
    exact ⟨decide_eq_true (rowS_mem.mpr g.top), decide_eq_true (rowS_mem.mpr g.bot)⟩
  have p5 : g5 m.enc = true := by
    unfold g5
    rw [Bool.and_eq_true]
    obtain ⟨r1, a1, a2⟩ := g.lef
    obtain ⟨r2, b1, b2⟩ := g.rig
    have w1 := g.w1
    refine ⟨List.any_eq_true.mpr ⟨_, List.mem_of_getElem? (enc_get a1), ?_⟩, List.any_eq_true.mpr ⟨_, List.mem_of_getElem? (enc_get b1), ?_⟩⟩
    · unfold isC
      have := L2.atI_nat (rowS_at (g := m.f r1) (c := 0) (w := m.w) (by omega))
      rw [a2] at this
      exact decide_eq_true this
    · unfold isC
      have hne : cs (Mx.rowS m.w (m.f r2)) ≠ [] := fun z => by
        have := congrArg List.length z
        rw [show cs (Mx.rowS m.w (m.f r2)) = _ from Mx.rowS_cs _ _] at this
        simp at this
        omega
      rw [G.atI_neg _ hne, List.getLast_eq_getElem]
      have h3 := rowS_at (g := m.f r2) (c := m.w - 1) (w := m.w) (by omega)
      rw [List.getElem?_eq_some_iff] at h3
      obtain ⟨h4, h5⟩ := h3
      rw [b2] at h5
      refine decide_eq_true (congrArg some ?_)
      have e35 : (if true = true then 35 else 46) = 35 := rfl
      rw [e35] at h5
      have e6 : (cs (Mx.rowS m.w (m.f r2))).length - 1 = m.w - 1 := by
        rw [show cs (Mx.rowS m.w (m.f r2)) = _ from Mx.rowS_cs _ _]
        simp
      simp only [e6]
      exact h5
  unfold goodS
  rw [p1, p2, p3, p4, p5]
  rfl
theorem enc_small {m : Mx} (g : m.Good) : m.enc.length ≤ 100 ∧ ∀ r ∈ m.enc, r.length ≤ 100 := by
  have := g.h4
  have := g.w4
  refine ⟨by rw [enc_len]; omega, fun z hz => ?_⟩
  obtain ⟨r, _, rfl⟩ := enc_mem hz
  rw [Mx.rowS_len]
  omega
end Sh
namespace G
open PySem PySem.Spec PyProof.Rows L2 Sh
/-- a shape: good, then o; or none, then BadShape -/
def shRel (g : Mx → List PyData → Res → Prop) : List PyData → Res → Prop := fun ds o => (∃ (m : Mx) (more : List PyData), m.Good ∧ ds = shD m.enc :: more ∧ g m more o) ∨ ∃ (rows : List Str) (more : List PyData), rows.length ≤ 100 ∧ (∀ r ∈ rows, r.length ≤ 100) ∧ goodS rows = false ∧ ds = shD rows :: more ∧ o = .ex "BadShape"
theorem look_good {m : Mx} (g : m.Good) : relLook [shD m.enc] (.ok .none) := ⟨m.enc, rfl, (enc_small g).1, (enc_small g).2, by rw [goodS_enc g]; rfl⟩
theorem look_bad {rows : List Str} (h1 : rows.length ≤ 100) (h2 : ∀ r ∈ rows, r.length ≤ 100) (h3 : goodS rows = false) : relLook [shD rows] (.ex "BadShape") := ⟨rows, rfl, h1, h2, by rw [h3]; rfl⟩
section
variable {P : Program} {w : World} {K : PySem.W.Frag} {mg : Str → Option Value} {base : Heap} {CA : Str → Addr}
theorem flat_one {α β : Type} (f : α → β) : ∀ l : List α, (l.map fun z => [f z]).flatten = l.map f
  | [] => rfl
  | a :: l => by
    have ih := flat_one f l
    rw [List.map_cons, List.flatten_cons, ih, List.map_cons]
    rfl
def relTurnOnce : List PyData → Res → Prop := fun ds o => ∃ m : Mx, m.Good ∧ ds = [shD m.enc] ∧ o = .ok (shD m.turn.enc)
theorem ok_turn_once (t : TxtS K mg CA) (D : DefT K mg "turn_once" T.s_turn_once) : FnF P w K mg base 1 "turn_once" (lift CA (pmD relTurnOnce)) := by
  refine mkFn D (ps := T.P_turn_once) (fun f fd Fd => fn_data Fd T.sc_turn_once (fun ds o h => ?_) fun cdv A outer s H E R0 hr ds o h => ?_) fun _ _ _ _ _ _ us hl => match us, hl with | [_], _ => rfl
  · obtain ⟨m, _, rfl, _⟩ := h
    rfl
  · obtain ⟨m, g, rfl, rfl⟩ := h
    have nd := T.sc_turn_once.nd
    obtain ⟨rest, er⟩ := enc_cons g
    have g4 := g.w4
    have g5 := g.h4
    refine sb_one (s_ret (Ev.s (d := shD m.turn.enc) ?_ ⟨_, rfl, rfl⟩))
    refine ev_tuple t.tuple (Ev.is (ev_lcp (own := [("k", 1)]) rfl nd (blkOk_by (N := T.N_turn_once) (sc := defScope T.s_turn_once) (by decide +kernel))
      (lc_map (List.range m.w) (fun i : Nat => PyData.int (i : Int)) (fun k => .str (Mx.rowS m.h (m.turn.f k))) (fun k => _) (EvI.c (ei_rangeN (n := m.w) t.range (Ev.is (ev_lenS t.len (ev_ixT (d := .str (Mx.rowS m.w (m.f 0))) (ev_var 0) ev_int ?_) ?_) ?_) ?_)) ?_ (fun _ _ _ _ _ r hx => tg_name 1 nd (by decide)) (fun _ _ _ _ _ k hk => ?_))) ?_)
    · rw [er]
      exact atI_zero _ _
    · rw [Mx.rowS_len]
      exact small (by omega)
    · rw [Mx.rowS_len]
    · omega
    · rw [List.length_range]
      exact Nat.lt_of_le_of_lt g4 (by decide)
    · have hk : k < m.w := List.mem_range.mp hk
      refine Ev.is (ev_joinL (ys := m.enc.reverse.map fun z => ⟨#[(cs z).getD k 0]⟩) ev_str (Ev.is (ev_lcp (own := [("row", 2)]) rfl nd (blkOk_in T.N_turn_once (defScope T.s_turn_once) (by decide +kernel))
        (lc_map m.enc.reverse PyData.str (fun z => .str ⟨#[(cs z).getD k 0]⟩) (fun z => _) (EvI.c (ei_tup (Ev.is (ev_revT (ev_var 0)) ?_))) ?_ (fun _ _ _ _ _ r hx => tg_name 2 nd (by decide)) (fun _ _ _ _ _ z hz => ?_))) ?_) ?_) ?_
      · rw [List.map_reverse]
      · rw [List.length_reverse, enc_len]
        exact Nat.lt_of_le_of_lt g5 (by decide)
      · obtain ⟨r, hr', rfl⟩ := enc_mem (List.mem_reverse.mp hz)
        have hat : (cs (Mx.rowS m.w (m.f r)))[k]? = some ((cs (Mx.rowS m.w (m.f r))).getD k 0) := by
          rw [List.getD_eq_getElem?_getD, rowS_at hk]
          rfl
        exact ev_ixS (ev_var 2) (ev_var 1) (atI_nat hat) (by rw [Mx.rowS_len]; exact small (by omega))
      · rw [List.map_map]
        rfl
      · have h1 := sum_len (m.enc.reverse.map fun z => (⟨#[(cs z).getD k 0]⟩ : Str)) (fun z hz => by
          obtain ⟨_, _, rfl⟩ := List.mem_map.mp hz
          show 1 ≤ 100
          decide)
        have e2 : (Str.ofString "").length = 0 := by decide +kernel
        rw [List.length_map, List.length_reverse, enc_len] at h1
        rw [e2]
        omega
      · refine congrArg PyData.str (TL.ext_tl ?_)
        show cs (Txt.join (Str.ofString "") _) = cs (Mx.rowS m.h (m.turn.f k))
        rw [cs_join, List.map_map, show cs (Mx.rowS m.h (m.turn.f k)) = _ from Mx.rowS_cs _ _]
        have e1 : (cs ∘ fun z : Str => (⟨#[(cs z).getD k 0]⟩ : Str)) = fun z => [(cs z).getD k 0] := rfl
        rw [e1]
        rw [flat_one (fun z : Str => (cs z).getD k 0)]
        apply List.ext_getElem?
        intro j
        by_cases hj : j < m.h
        · rw [List.getElem?_map, List.getElem?_map, List.getElem?_range hj, List.getElem?_reverse (by rw [enc_len]; exact hj), enc_len, enc_get (by omega)]
          show some ((cs (Mx.rowS m.w (m.f (m.h - 1 - j)))).getD k 0) = some (if m.turn.f k j = true then 35 else 46)
          rw [List.getD_eq_getElem?_getD, rowS_at hk]
          rfl
        · rw [List.getElem?_eq_none (by rw [List.length_map, List.length_reverse, enc_len]; omega), List.getElem?_eq_none (by rw [List.length_map, List.length_range]; omega)]
    · show PyData.list _ = PyData.list ((m.turn.enc).map PyData.str)
      unfold Mx.enc
      rw [List.map_map]
      rfl
end
end G
end

section
set_option Elab.async false
set_option linter.all false
set_option maxRecDepth 100000
set_option maxHeartbeats 4000000
namespace Sh
open PySem
def prN (p : Nat × Nat) : PyData := .tuple [.int (p.1 : Int), .int (p.2 : Int)]
def cellsD (l : List (Nat × Nat)) : PyData := .list (l.map prN)
theorem strOk_row (w : Nat) (g : Nat → Bool) : PyData.strOk (Mx.rowS w g) = true := by
  have e : ∀ c ∈ (Mx.rowS w g).cps.toList, c < 0x110000 := fun c hc => by
    rw [Mx.rowS_cs] at hc
    obtain ⟨k, _, h⟩ := List.mem_map.mp hc
    subst h
    split <;> decide
  unfold PyData.strOk
  rw [Array.all_eq_true]
  intro i hi
  exact decide_eq_true (e _ (by simp))
theorem fit_sh (m : Mx) : Da.Fit 1 (shD m.enc) := Da.fit_tup (Da.fit_map fun z hz => by
  obtain ⟨r, _, rfl⟩ := enc_mem hz
  exact Da.fit_str (strOk_row _ _))
theorem eq_sh (a b : List Str) : PyData.eqv (shD a) (shD b) = decide (a = b) := Da.eq_tup fun x _ y _ => by
  rw [Da.eq_str]
  simp
theorem fit_prN (p : Nat × Nat) : Da.Fit 1 (prN p) := Da.fit_tup (Da.fit_cons (Da.fit_int _) (Da.fit_cons (Da.fit_int _) Da.fit_nil))
theorem eq_prN (a b : Nat × Nat) : PyData.eqv (prN a) (prN b) = true ↔ a = b := by
  obtain ⟨a1, a2⟩ := a
  obtain ⟨b1, b2⟩ := b
  simp only [prN, PyData.eqv, PyData.eqvAll, Bool.and_true, Bool.and_eq_true, beq_iff_eq, Prod.mk.injEq]
  omega
theorem fit_cells (l : List (Nat × Nat)) : Da.Fit 2 (cellsD l) := Da.fit_list (Da.fit_map fun p _ => fit_prN p)
theorem eq_cells (a b : List (Nat × Nat)) : PyData.eqv (cellsD a) (cellsD b) = decide (a = b) := Da.eq_list fun x _ y _ => eq_prN x y
/-- the turns that have each look, each once -/
def looksTo (m : Mx) : Nat → List Nat
  | 0 => []
  | n + 1 => if (looksTo m n).any (fun k => decide ((Mx.turnN k m).enc = (Mx.turnN n m).enc)) then looksTo m n else looksTo m n ++ [n]
def turnsM (m : Mx) : List Nat := looksTo m 4
theorem looksTo_lt (m : Mx) : ∀ n, ∀ k ∈ looksTo m n, k < n
  | 0, k, h => by cases h
  | n + 1, k, h => by
    unfold looksTo at h
    split at h
    · have := looksTo_lt m n k h
      omega
    · rcases List.mem_append.mp h with h | h
      · have := looksTo_lt m n k h
        omega
      · have : k = n := by simpa using h
        omega
theorem looksTo_len (m : Mx) : ∀ n, (looksTo m n).length ≤ n
  | 0 => Nat.le_refl _
  | n + 1 => by
    have ih := looksTo_len m n
    unfold looksTo
    split
    · omega
    · rw [List.length_append]
      simp
      omega
def alikeM (a b : Mx) : Bool := (List.range 4).any fun n => decide ((Mx.turnN n a).enc = b.enc)
end Sh
namespace G
open PySem PySem.Spec PyProof.Rows L2 Sh
section
variable {P : Program} {w : World} {K : PySem.W.Frag} {mg : Str → Option Value} {base : Heap} {CA : Str → Addr}
abbrev LookF (P : Program) (w : World) (K : PySem.W.Frag) (mg : Str → Option Value) (base : Heap) (CA : Str → Addr) : Prop := FnF P w K mg base 1 "look_shape" (lift CA (pmD relLook))
def relTurned : List PyData → Res → Prop := shRel fun m more o => ∃ n : Nat, more = [.int (n : Int)] ∧ o = .ok (shD (Mx.turnN (n % 4) m).enc)
def relTurned' : List PyData → Res → Prop := fun ds o => relTurned ds o ∧ ds.length = 2
theorem ok_turned (t : TxtS K mg CA) (D : DefT K mg "turned" T.s_turned) (fl : LookF P w K mg base CA) (ft : FnF P w K mg base 1 "turn_once" (lift CA (pmD relTurnOnce))) : FnF P w K mg base 2 "turned" (lift CA (pmD relTurned')) := by
  refine mkFn D (ps := T.P_turned) (fun f fd Fd => fn_data Fd T.sc_turned (fun ds o h => h.2) fun cdv A outer s H E R0 hr ds o h => ?_) fun _ _ _ _ _ _ us hl => match us, hl with | [_, _], _ => rfl
  have nd := T.sc_turned.nd
  obtain ⟨h | h, hlen⟩ := h
  · obtain ⟨m, more, g, rfl, n, rfl, rfl⟩ := h
    refine sb_cons (s_expr (es_callD fl hr (ea_one (ev_var 0)) (look_good g) (fun d e => ?_) (fun c e => by cases e)))
    cases e
    refine sb_cons (s_for (List.range (n % 4)) (fun i : Nat => PyData.int (i : Int)) (vs := [2]) (passes_of rfl) rfl (ei_rangeN t.range (Ev.is (ev_mod (ev_var 1) ev_int (by decide)) (by simp)) (by omega))
      (fun i ρ' _ => ∃ o, ρ' = [some (.d (shD (Mx.turnN i m).enc)), some (.d (.int (n : Int))), o]) ⟨_, rfl⟩ ?_ ?_)
    · rintro i x ρ' w' hi ⟨o, rfl⟩
      refine ⟨_, tg_name 2 nd (by decide), ?_⟩
      refine sb_one (s_asg 0 nd (Ev.s (d := shD (Mx.turnN (i + 1) m).enc) (ev_call ft hr (ea_one (ev_var 0)) ⟨Mx.turnN i m, g.turnN i, rfl, rfl⟩) ⟨_, rfl⟩))
    · rintro ρ' w' ⟨o, rfl⟩
      rw [List.length_range]
      exact sb_one (s_ret (Ev.s (ev_var 0) ⟨_, rfl, rfl⟩))
  · obtain ⟨rows, more, h1, h2, h3, rfl, rfl⟩ := h
    exact sb_cons (s_expr (es_callD fl hr (ea_one (ev_var 0)) (look_bad h1 h2 h3) (fun d e => by cases e) (fun c e => e)))
abbrev TurnedF (P : Program) (w : World) (K : PySem.W.Frag) (mg : Str → Option Value) (base : Heap) (CA : Str → Addr) : Prop := FnF P w K mg base 2 "turned" (lift CA (pmD relTurned'))
theorem turned_good {m : Mx} (g : m.Good) (n : Nat) : relTurned' [shD m.enc, .int (n : Int)] (.ok (shD (Mx.turnN (n % 4) m).enc)) := ⟨.inl ⟨m, _, g, rfl, n, rfl, rfl⟩, rfl⟩
theorem turned_bad {rows : List Str} {d : PyData} (h1 : rows.length ≤ 100) (h2 : ∀ r ∈ rows, r.length ≤ 100) (h3 : goodS rows = false) : relTurned' [shD rows, d] (.ex "BadShape") := ⟨.inr ⟨rows, _, h1, h2, h3, rfl, rfl⟩, rfl⟩
/-! cells -/
def relCells : List PyData → Res → Prop := fun ds o => shRel (fun m more o => more = [] ∧ o = .ok (cellsD m.cells)) ds o ∧ ds.length = 1
theorem cells_good {m : Mx} (g : m.Good) : relCells [shD m.enc] (.ok (cellsD m.cells)) := ⟨.inl ⟨m, _, g, rfl, rfl, rfl⟩, rfl⟩
theorem cells_bad {rows : List Str} (h1 : rows.length ≤ 100) (h2 : ∀ r ∈ rows, r.length ≤ 100) (h3 : goodS rows = false) : relCells [shD rows] (.ex "BadShape") := ⟨.inr ⟨rows, _, h1, h2, h3, rfl, rfl⟩, rfl⟩
def cellsUp (m : Mx) (n : Nat) : List (Nat × Nat) := (List.range n).flatMap fun r => ((List.range m.w).filter (m.f r)).map fun c => (r, c)
theorem cellsUp_succ (m : Mx) (n : Nat) : cellsUp m (n + 1) = cellsUp m n ++ ((List.range m.w).filter (m.f n)).map fun c => (n, c) := by
  unfold cellsUp
  rw [List.range_succ, List.flatMap_append]
  simp
theorem flat_le (m : Mx) : ∀ n, (cellsUp m n).length ≤ n * m.w
  | 0 => by simp [cellsUp]
  | n + 1 => by
    have ih := flat_le m n
    rw [cellsUp_succ, List.length_append, List.length_map]
    have h := List.length_filter_le (m.f n) (List.range m.w)
    rw [List.length_range] at h
    rw [Nat.add_mul]
    omega
theorem ok_cells (t : TxtS K mg CA) (D : DefT K mg "cells" T.s_cells) (fl : LookF P w K mg base CA) : FnF P w K mg base 2 "cells" (lift CA (pmD relCells)) := by
  refine mkFn D (ps := T.P_cells) (fun f fd Fd => fn_data Fd T.sc_cells (fun ds o h => h.2) fun cdv A outer s H E R0 hr ds o h => ?_) fun _ _ _ _ _ _ us hl => match us, hl with | [_], _ => rfl
  have nd := T.sc_cells.nd
  obtain ⟨h | h, hlen⟩ := h
  · obtain ⟨m, more, g, rfl, rfl, rfl⟩ := h
    obtain ⟨rest, er⟩ := enc_cons g
    have w4 := g.w4
    have h4 := g.h4
    refine sb_cons (s_expr (es_callD fl hr (ea_one (ev_var 0)) (look_good g) (fun d e => ?_) (fun c e => by cases e)))
    cases e
    refine sb_cons (s_asgL 1 nd (esa_nil ⟨[], rfl, by decide, ?_⟩))
    refine sb_cons (s_for (List.range m.h) (fun i : Nat => PyData.int (i : Int)) (vs := [2]) (passes_of rfl) rfl (ei_rangeN t.range (Ev.is (ev_lenT t.len (ev_var 0)) (by rw [List.length_map, enc_len])) (by omega))
      (fun i ρ' _ => ∃ o o', ρ' = [some (.d (shD m.enc)), some (.own ((cellsUp m i).map prN)), o, o']) ⟨_, _, rfl⟩ ?_ ?_)
    · rintro i x ρ' w' hi ⟨o, o', rfl⟩
      obtain ⟨hix, ex⟩ := List.getElem?_eq_some_iff.mp hi
      rw [List.length_range] at hix
      have ex : i = x := by simpa using ex
      subst ex
      refine ⟨_, tg_name 2 nd (by decide), ?_⟩
      refine sb_one (s_ext 1 rfl (Ev.s (d := .list (((List.range m.w).filter (m.f i)).map fun c => prN (i, c))) ?_ ⟨_, rfl, ?_, some (.d (.int (i : Int))), o', ?_⟩))
      · refine ev_lcp (own := [("column", 3)]) rfl nd (blkOk_by (N := T.N_cells) (sc := defScope T.s_cells) (by decide +kernel))
          (lc_ok (List.range m.w) (fun i : Nat => PyData.int (i : Int)) (m.f i) (fun c => prN (i, c)) (fun c => _) (EvI.c (ei_rangeN (n := m.w) t.range (Ev.is (ev_lenS t.len (ev_ixT (d := .str (Mx.rowS m.w (m.f 0))) (ev_var 0) ev_int ?_) ?_) ?_) ?_)) ?_ (fun _ _ _ _ _ r hx => tg_name 3 nd (by decide))
            (fun _ _ _ _ _ c hc => ?_) (fun _ _ _ _ _ c hc _ => ev_tup (ea_cons (ev_var 2) (ea_cons (ev_var 3) ea_nil))))
        · rw [er]
          exact atI_zero _ _
        · rw [Mx.rowS_len]
          exact small (by omega)
        · rw [Mx.rowS_len]
        · omega
        · rw [List.length_range]
          exact Nat.lt_of_le_of_lt w4 (by decide)
        · have hc : c < m.w := List.mem_range.mp hc
          refine ets_one (EvT.is (et_eqS (ev_ixS (z := Mx.rowS m.w (m.f i)) (ev_ixT (ev_var 0) (ev_var 2) ?_) (ev_var 3) (atI_nat (rowS_at hc)) ?_) (ev_gstr t.cell)) ?_)
          · rw [atI_map, atI_nat (enc_get hix)]
            rfl
          · rw [Mx.rowS_len]
            exact small (by omega)
          · rw [hash_eq]
            cases m.f i c <;> decide
      · rw [List.length_map, List.length_map]
        have h1 := flat_le m i
        have h2 := List.length_filter_le (m.f i) (List.range m.w)
        rw [List.length_range] at h2
        have h3 : i * m.w ≤ 4 * 4 := Nat.mul_le_mul (by omega) w4
        exact Nat.le_trans (show _ ≤ 100 by omega) (by decide)
      · rw [cellsUp_succ, List.map_append, List.map_map]
        rfl
    · rintro ρ' w' ⟨o, o', rfl⟩
      rw [List.length_range]
      refine sb_freeze 1 rfl ?_
      exact sb_one (s_ret (Ev.s (ev_var 1) ⟨_, rfl, rfl⟩))
  · obtain ⟨rows, more, h1, h2, h3, rfl, rfl⟩ := h
    exact sb_cons (s_expr (es_callD fl hr (ea_one (ev_var 0)) (look_bad h1 h2 h3) (fun d e => by cases e) (fun c e => e)))
abbrev CellsF (P : Program) (w : World) (K : PySem.W.Frag) (mg : Str → Option Value) (base : Heap) (CA : Str → Addr) : Prop := FnF P w K mg base 2 "cells" (lift CA (pmD relCells))
/-! size -/
def relSize : List PyData → Res → Prop := fun ds o => shRel (fun m more o => more = [] ∧ o = .ok (.tuple [.int (m.h : Int), .int (m.w : Int), .int (m.cells.length : Int)])) ds o ∧ ds.length = 1
theorem size_good {m : Mx} (g : m.Good) : relSize [shD m.enc] (.ok (.tuple [.int (m.h : Int), .int (m.w : Int), .int (m.cells.length : Int)])) := ⟨.inl ⟨m, _, g, rfl, rfl, rfl⟩, rfl⟩
theorem size_bad {rows : List Str} (h1 : rows.length ≤ 100) (h2 : ∀ r ∈ rows, r.length ≤ 100) (h3 : goodS rows = false) : relSize [shD rows] (.ex "BadShape") := ⟨.inr ⟨rows, _, h1, h2, h3, rfl, rfl⟩, rfl⟩
/-! turns_of -/
def natsD (l : List Nat) : PyData := .list (l.map fun n : Nat => PyData.int (n : Int))
def relTurnsOf : List PyData → Res → Prop := fun ds o => shRel (fun m more o => more = [] ∧ o = .ok (natsD (turnsM m))) ds o ∧ ds.length = 1
theorem turnsOf_good {m : Mx} (g : m.Good) : relTurnsOf [shD m.enc] (.ok (natsD (turnsM m))) := ⟨.inl ⟨m, _, g, rfl, rfl, rfl⟩, rfl⟩
theorem turnsOf_bad {rows : List Str} (h1 : rows.length ≤ 100) (h2 : ∀ r ∈ rows, r.length ≤ 100) (h3 : goodS rows = false) : relTurnsOf [shD rows] (.ex "BadShape") := ⟨.inr ⟨rows, _, h1, h2, h3, rfl, rfl⟩, rfl⟩
theorem ok_turns_of (t : TxtS K mg CA) (D : DefT K mg "turns_of" T.s_turns_of) (fl : LookF P w K mg base CA) (ft : TurnedF P w K mg base CA) : FnF P w K mg base 3 "turns_of" (lift CA (pmD relTurnsOf)) := by
  refine mkFn D (ps := T.P_turns_of) (fun f fd Fd => fn_data Fd T.sc_turns_of (fun ds o h => h.2) fun cdv A outer s H E R0 hr ds o h => ?_) fun _ _ _ _ _ _ us hl => match us, hl with | [_], _ => rfl
  have nd := T.sc_turns_of.nd
  obtain ⟨h | h, hlen⟩ := h
  · obtain ⟨m, more, g, rfl, rfl, rfl⟩ := h
    refine sb_cons (s_expr (es_callD fl (hr.mono (by decide)) (ea_one (ev_var 0)) (look_good g) (fun d e => ?_) (fun c e => by cases e)))
    cases e
    refine sb_cons (s_asgL 1 nd (esa_nil ⟨[], rfl, by decide, ?_⟩))
    refine sb_cons (s_for (List.range 4) (fun i : Nat => PyData.int (i : Int)) (vs := [2]) (passes_of rfl) rfl (ei_rangeN (n := 4) t.range ev_int (by decide))
      (fun i ρ' _ => ∃ o, ρ' = [some (.d (shD m.enc)), some (.own ((looksTo m i).map fun n : Nat => PyData.int (n : Int))), o, none]) ⟨_, rfl⟩ ?_ ?_)
    · rintro i x ρ' w' hi ⟨o, rfl⟩
      obtain ⟨hix, ex⟩ := List.getElem?_eq_some_iff.mp hi
      rw [List.length_range] at hix
      have ex : i = x := by simpa using ex
      subst ex
      refine ⟨_, tg_name 2 nd (by decide), ?_⟩
      have hlt := looksTo_lt m i
      have hll := looksTo_len m i
      refine sb_one (s_if (EvT.s (v := !(looksTo m i).any (fun k => decide ((Mx.turnN k m).enc = (Mx.turnN i m).enc))) (EvT.is (et_notIn (ds := (looksTo m i).map fun k => shD (Mx.turnN k m).enc) (u65 hr) (ev_call ft hr (ea_cons (ev_var 0) (ea_one (ev_var 2))) (turned_good g i))
        (ev_lcp (own := [("other", 3)]) rfl nd (blkOk_by (N := T.N_turns_of) (sc := defScope T.s_turns_of) (by decide +kernel))
          (lc_map (looksTo m i) (fun n : Nat => PyData.int (n : Int)) (fun k => shD (Mx.turnN k m).enc) (fun k => _) (ei_own 1) ?_ (fun _ _ _ _ _ r hx => tg_name 3 nd (by decide))
            (fun _ _ _ _ _ k hk => Ev.is (ev_call ft hr (ea_cons (ev_var 0) (ea_one (ev_var 3))) (turned_good g k)) ?_))) ?_ ?_) ?_) ⟨fun hv => ?_, fun hv => ?_⟩))
      · exact Nat.lt_of_le_of_lt (Nat.le_trans hll (Nat.le_of_lt hix)) (by decide)
      · rw [Nat.mod_eq_of_lt (by have := hlt k hk; omega)]
      · exact (fit_sh _).shaped
      · exact (Da.fit_list (Da.fit_map fun k _ => fit_sh _)).shaped
      · rw [List.any_map, Nat.mod_eq_of_lt hix]
        congr 2
        funext k
        show PyData.eqv (shD _) (shD _) = _
        rw [eq_sh]
      · refine sb_one (s_app 1 rfl (Ev.s (ev_var 2) ⟨_, rfl, ?_, ?_⟩))
        · rw [List.length_map]
          exact Nat.lt_of_le_of_lt (Nat.le_trans hll (Nat.le_of_lt hix)) (by decide)
        · refine ⟨some (.d (.int (i : Int))), ?_⟩
          have hv : (looksTo m i).any (fun k => decide ((Mx.turnN k m).enc = (Mx.turnN i m).enc)) = false := by simpa using hv
          have e : looksTo m (i + 1) = looksTo m i ++ [i] := by
            show (if _ then _ else _) = _
            rw [hv]
            rfl
          rw [e, List.map_append]
          rfl
      · refine sb_nil ⟨some (.d (.int (i : Int))), ?_⟩
        have hv : (looksTo m i).any (fun k => decide ((Mx.turnN k m).enc = (Mx.turnN i m).enc)) = true := by simpa using hv
        have e : looksTo m (i + 1) = looksTo m i := by
          show (if _ then _ else _) = _
          rw [hv]
          rfl
        rw [e]
        rfl
    · rintro ρ' w' ⟨o, rfl⟩
      refine sb_freeze 1 rfl ?_
      exact sb_one (s_ret (Ev.s (ev_var 1) ⟨_, rfl, rfl⟩))
  · obtain ⟨rows, more, h1, h2, h3, rfl, rfl⟩ := h
    exact sb_cons (s_expr (es_callD fl (hr.mono (by decide)) (ea_one (ev_var 0)) (look_bad h1 h2 h3) (fun d e => by cases e) (fun c e => e)))
abbrev TurnsF (P : Program) (w : World) (K : PySem.W.Frag) (mg : Str → Option Value) (base : Heap) (CA : Str → Addr) : Prop := FnF P w K mg base 3 "turns_of" (lift CA (pmD relTurnsOf))
/-! is_alike -/
def relAlike : List PyData → Res → Prop := fun ds o => ∃ a b : Mx, a.Good ∧ b.Good ∧ ds = [shD a.enc, shD b.enc] ∧ o = .ok (.bool (alikeM a b))
end
end G
end

section
set_option Elab.async false
set_option linter.all false
set_option maxRecDepth 100000
set_option maxHeartbeats 4000000
/-! ### classes of the text; worlds seen otherwise -/
namespace G
open PySem PySem.Spec PyProof.Rows L2
theorem u1 {k : Nat} {A : Around} (hr : Room k A) : A.units + 1 < cLine := by
  have := u100 hr
  omega
structure ClsT (K : PySem.W.Frag) (mg : Str → Option Value) (CA : Str → Addr) (x : Str) (flds : List Str) : Prop where
  c : Cls K (CA x)
  g : mg x = some (.ref (CA x))
  na : ∀ f ∈ flds, NoAttr K (CA x) f
def MethT (K : PySem.W.Frag) (CA : Str → Addr) (C m qual : Str) (st : Stmt) : Prop := ∃ f fd, FunD K m qual (defArgs st) (defBody st) (defScope st) [] [] f fd ∧ Meth K (CA C) m f
def MakeT (K : PySem.W.Frag) (mg : Str → Option Value) (CA : Str → Addr) (C qual : Str) (st : Stmt) : Prop := ∃ f fd, FunD K "__init__" qual (defArgs st) (defBody st) (defScope st) [] [] f fd ∧ Mk K (CA C) f ∧ mg C = some (.ref (CA C))
section
variable {P : Program} {w : World} {K : PySem.W.Frag} {mg : Str → Option Value} {base : Heap} {CA : Str → Addr} {C m qual : Str} {st : Stmt} {ps N : List Str} {k : Nat} {sp : Spc}
theorem mkM (D : MethT K CA C m qual st) (S : FnScope N ps (defScope st)) (len : ∀ svs th Q, sp svs th Q → svs.length = ps.length)
    (h : ∀ (f : Addr) (cdv : Value) (A : Around) (outer : List Env) (s : Shared) (H : Hp) (E : XK) (R0 : Hp) (svs : List Sv) (th : List Thing) (Q : ResS → List Thing → Prop), Room k (A.deeper (envOfC qual (defScope st) s.heap.objs.size f cdv)) → sp svs th Q →
      SB (cxOf (L2.CX P w) P w K mg base N qual (defScope st) f cdv A outer s H E) CA (ThW R0) (startS N.length svs) th (defBody st) (outW Q))
    (hb : ∀ (kV doc pm : Value) (an : Option Addr) (cdv ct : Value) (us : List Value), us.length = ps.length → bindArgs (PySem.W.fnOf m qual (defArgs st) (defBody st) (defScope st) .none kV doc pm an cdv ct) ⟨us, []⟩ = pure (ps.zip us)) : FnM P w K mg base (k + 1) (CA C) m (lift CA (pmW sp)) := by
  obtain ⟨f, fd, Fd, hm⟩ := D
  exact ⟨f, fd, ps, fn_w Fd S len (h f), hm, Fd.bindsN hb⟩
theorem mkN (D : MakeT K mg CA C qual st) (S : FnScope N ps (defScope st)) (len : ∀ svs th Q, sp svs th Q → svs.length = ps.length)
    (h : ∀ (f : Addr) (cdv : Value) (A : Around) (outer : List Env) (s : Shared) (H : Hp) (E : XK) (R0 : Hp) (svs : List Sv) (th : List Thing) (Q : ResS → List Thing → Prop), Room k (A.deeper (envOfC qual (defScope st) s.heap.objs.size f cdv)) → sp svs th Q →
      SB (cxOf (L2.CX P w) P w K mg base N qual (defScope st) f cdv A outer s H E) CA (ThW R0) (startS N.length svs) th (defBody st) (outW Q))
    (hb : ∀ (kV doc pm : Value) (an : Option Addr) (cdv ct : Value) (us : List Value), us.length = ps.length → bindArgs (PySem.W.fnOf "__init__" qual (defArgs st) (defBody st) (defScope st) .none kV doc pm an cdv ct) ⟨us, []⟩ = pure (ps.zip us)) : FnN P w K mg base (k + 1) (CA C) C (lift CA (pmW sp)) := by
  obtain ⟨f, fd, Fd, hm, hg⟩ := D
  exact ⟨f, fd, ps, fn_w Fd S len (h f), hm, hg, Fd.bindsN hb⟩
theorem mkW {x : Str} (D : DefT K mg x st) (S : FnScope N ps (defScope st)) (len : ∀ svs th Q, sp svs th Q → svs.length = ps.length)
    (h : ∀ (f : Addr) (cdv : Value) (A : Around) (outer : List Env) (s : Shared) (H : Hp) (E : XK) (R0 : Hp) (svs : List Sv) (th : List Thing) (Q : ResS → List Thing → Prop), Room k (A.deeper (envOfC x (defScope st) s.heap.objs.size f cdv)) → sp svs th Q →
      SB (cxOf (L2.CX P w) P w K mg base N x (defScope st) f cdv A outer s H E) CA (ThW R0) (startS N.length svs) th (defBody st) (outW Q))
    (hb : ∀ (kV doc pm : Value) (an : Option Addr) (cdv ct : Value) (us : List Value), us.length = ps.length → bindArgs (PySem.W.fnOf x x (defArgs st) (defBody st) (defScope st) .none kV doc pm an cdv ct) ⟨us, []⟩ = pure (ps.zip us)) : FnF P w K mg base (k + 1) x (lift CA (pmW sp)) :=
  mkFn D (fun f fd Fd => fn_w Fd S len (h f)) hb
end
section
variable {X : Cx} {CA : Str → Addr} {R0 : Hp} {ρ : Rho} {w w' : List Thing} {rest : List Stmt} {st : Stmt} {OS : Out (List Thing)} {e : Expr} {es : List Expr} {pos p : Pos} {O : Sv → List Thing → Prop} {Ox : Str → List Thing → Prop} {k : Nat} {x : Str} {C : Addr} {sp : Spc} {svs : List Sv}
/-- the same rest, seen as other things -/
theorem sb_see (h : ∀ F R, Sep F R0 w R → Sep F R0 w' R) (hs : SB X CA (ThW R0) ρ w' rest OS) : SB X CA (ThW R0) ρ w rest OS := fun F L R H σ g i k D Wx tk m => hs F L R H σ g (h F R i) k D Wx tk m
theorem s1_see (h : ∀ F R, Sep F R0 w R → Sep F R0 w' R) (hs : S1 X CA (ThW R0) ρ w' st OS) : S1 X CA (ThW R0) ρ w st OS := fun F L R H σ g i k D Wx tk m => hs F L R H σ g (h F R i) k D Wx tk m
theorem es_see (h : ∀ F R, Sep F R0 w R → Sep F R0 w' R) (hs : EvS X CA (ThW R0) ρ w' e O Ox) : EvS X CA (ThW R0) ρ w e O Ox := fun F L R H σ g i k Q Wx tk q qx => hs F L R H σ g (h F R i) k Q Wx tk q qx
theorem sb_drop {junk : List Thing} (hs : SB X CA (ThW R0) ρ w rest OS) : SB X CA (ThW R0) ρ (w ++ junk) rest OS := sb_see (fun _ _ h => h.drop) hs
/-- the rest behind it, seen as other things -/
def Sees (R0 : Hp) (w w' : List Thing) : Prop := ∀ F R, Sep F R0 w R → Sep F R0 w' R
def seeO (R0 : Hp) (O : Out (List Thing)) : Out (List Thing) := ⟨fun ρ w => ∃ w', Sees R0 w w' ∧ O.nx ρ w', fun sv w => ∃ w', Sees R0 w w' ∧ O.rt sv w', fun c ρ w => ∃ w', Sees R0 w w' ∧ O.ex c ρ w', fun ρ w => ∃ w', Sees R0 w w' ∧ O.bk ρ w', fun ρ w => ∃ w', Sees R0 w w' ∧ O.ct ρ w'⟩
theorem sb_post (h : SB X CA (ThW R0) ρ w rest (seeO R0 OS)) : SB X CA (ThW R0) ρ w rest OS := fun F L R H σ g i k D Wx tk m => h F L R H σ g i k D Wx tk
  ⟨fun ρ' w' F' L' R' H' σ' o s' i' g' k' => by
    obtain ⟨w2, h1, h2⟩ := o
    exact m.nx ρ' w2 F' L' R' H' σ' h2 s' (h1 F' R' i') g' k',
   fun sv w' v F' L' R' H' o s' i' r' n' k' => by
    obtain ⟨w2, h1, h2⟩ := o
    exact m.rt sv w2 v F' L' R' H' h2 s' (h1 F' R' i') r' n' k',
   fun c ρ' w' F' L' R' H' σ' o s' i' g' k' => by
    obtain ⟨w2, h1, h2⟩ := o
    exact m.ex c ρ' w2 F' L' R' H' σ' h2 s' (h1 F' R' i') g' k',
   fun ρ' w' F' L' R' H' σ' o s' i' g' k' => by
    obtain ⟨w2, h1, h2⟩ := o
    exact m.bk ρ' w2 F' L' R' H' σ' h2 s' (h1 F' R' i') g' k',
   fun ρ' w' F' L' R' H' σ' o s' i' g' k' => by
    obtain ⟨w2, h1, h2⟩ := o
    exact m.ct ρ' w2 F' L' R' H' σ' h2 s' (h1 F' R' i') g' k'⟩
/-- b.f = e, e with a state -/
theorem s_fsetS {b : Expr} {f : Str} {pos' : Pos} (i : Nat) (he : EvS X CA (ThW R0) ρ w e (fun sv w1 => ∃ (a C : Addr) (fss : List (Str × Sv)) (t : Thing) (u : List (Str × Sv) → Thing), EvV X ((ThW R0).om w1) ρ b (.raw (.ref a)) ∧ w1[i]? = some t ∧ InsW t C a fss u ∧ Cls X.K C ∧ NoAttr X.K C f ∧ fss.length < 1000 ∧ OS.nx ρ (w1.set i (u (putFS f sv fss)))) (fun c w1 => OS.ex c ρ w1))
    (hs : swapsWith e (some (.Attribute b f pos')) pos.line X.env = pure false := by rfl) : S1 X CA (ThW R0) ρ w (.Assign [.Attribute b f pos'] e pos) OS := fun F L R H σ g ii k D Wx tk m => by
  have qx : ToX CA (ThW R0) F L σ (fun c w1 => OS.ex c ρ w1) Wx := fun c w' F' R' H' o s' i' k' => m.ex c ρ w' F' L R' H' σ o s' i' (g.mono s') k'
  refine toS (ps_fld (pe_w b) (pe_w e) hs) (he F L R H σ g ii k _ Wx tk (fun sv w1 v F1 R1 H1 o1 s1 i1 r1 n1 k1 => ?_) qx)
  obtain ⟨a, C, fss, t, u, hb, hi, hw, c, na, hl, o⟩ := o1
  refine hb F1 L R1 H1 σ (g.mono s1) i1 k1 _ fun x F2 R2 H2 s2 i2 k2 r2 => ?_
  cases r2
  have i2 : Sep F2 R0 w1 R2 := i2
  obtain ⟨M, hP, hMR, hU⟩ := Sep.upd i2 hi
  obtain ⟨dx, fs, h1, h2⟩ := hw.is F2 M hP
  have haR := hMR _ _ h1
  exact ⟨a, C, dx, fs, rfl, k2.r _ _ haR, c, na, by rw [h2.len]; exact hl, m.nx ρ _ F2 L _ _ σ o (s1.trans s2) (hU F2 a _ _ (Same.refl _) (.inl (by rw [h1]; simp)) (hw.put F2 M dx fs _ _ hP h1 (h2.setF (RpS.anyL n1 (r1.mono s2)) n1))) (g.mono (s1.trans s2)) (k2.setR haR)⟩
/-- tuple(e), e with a state -/
theorem es_tupleL (hm : X.mg "tuple" = none) (h : EvS X CA (ThW R0) ρ w e (fun sv w1 => ∃ ds, sv = .d (.list ds) ∧ O (.d (.tuple ds)) w1) Ox) (hg : Gl X "tuple" := by rfl) (he : starEach [e] X.env = (false, eval e X.env) :: starEach [] X.env := by rfl) (hpl : (backTo pos (starEach [] X.env)).any (·.1) = false := by rfl) :
    EvS X CA (ThW R0) ρ w (.Call (.Name "tuple" p) [e] [] pos) O Ox := fun F L R H σ g i k Q Wx tk q qx =>
  toE (pe_callTy call_tuple_of hg hm (by decide +kernel) (pa_cons (pe_w e) pa_nil he) (by decide) (by decide) he hpl) (h F L R H σ g i k _ Wx tk (fun sv w1 v F1 R1 H1 o1 s1 i1 r1 n1 k1 => by
    obtain ⟨ds, e1, o⟩ := o1
    subst e1
    cases r1 with
    | lst h1 h2 =>
      refine ⟨_, _, rfl, .inl ⟨SqL.of (k1.f _ _ h1), To.tup (F := F1) (L := L) (R := R1) (ds := ds) (fun v F2 H2 s2 k2 r2 => q (.d (.tuple ds)) w1 v F2 R1 H2 o (s1.trans s2) (Sep.mono s2 i1) r2 rfl k2) k1 h2⟩⟩) qx)
/-- d[k] = v, v with a state -/
theorem s_dsetS {κ : Type} [DecidableEq κ] {D : KD κ} {a b : Expr} {pos' : Pos} (i : Nat) (hu : X.A.units + 1 < cLine) (he : EvS X CA (ThW R0) ρ w e (fun sv w1 => ∃ (q : Addr) (kss : List (κ × Sv)) (k : κ) (t : Thing) (u : List (κ × Sv) → Thing), EvV X ((ThW R0).om w1) ρ a (.raw (.ref q)) ∧ Ev X ((ThW R0).om w1) ρ b (D.enc k) ∧ w1[i]? = some t ∧ DicW D t q kss u ∧ kss.length < sizeLine ∧ OS.nx ρ (w1.set i (u (aput kss k sv)))) (fun c w1 => OS.ex c ρ w1))
    (hs : swapsWith e (some (.Subscript a b pos')) pos.line X.env = pure false := by rfl) : S1 X CA (ThW R0) ρ w (.Assign [.Subscript a b pos'] e pos) OS := fun F L R H σ g ii k1 Dd Wx tk m => by
  have qx : ToX CA (ThW R0) F L σ (fun c w1 => OS.ex c ρ w1) Wx := fun c w' F' R' H' o s' i' k' => m.ex c ρ w' F' L R' H' σ o s' i' (g.mono s') k'
  refine toS (ps_dput hu (pe_w a) (pe_w b) (pe_w e) hs) (he F L R H σ g ii k1 _ Wx tk (fun sv w1 v F1 R1 H1 z1 s1 o1 r1 hn k1 => ?_) qx)
  obtain ⟨q, kss, k, t, u, ha, hb, hi, hw, hl, o⟩ := z1
  refine ha F1 L R1 H1 σ (g.mono s1) o1 k1 _ fun x F2 R2 H2 s2 o2 k2 r2 => hb F2 L R2 H2 σ (g.mono (s1.trans s2)) o2 k2 _ fun y F3 R3 H3 s3 o3 k3 r3 => ?_
  cases r2
  have i3 : Sep F3 R0 w1 R3 := o3
  obtain ⟨M, hP, hMR, hU⟩ := Sep.upd i3 hi
  obtain ⟨kvs, h1, h2⟩ := hw.is F3 M hP
  have haR := hMR _ _ h1
  have r1' := RpS.anyL (L' := no) hn (r1.mono (s2.trans s3))
  refine ⟨q, _, rfl, D.put r3 k3.f (k3.r _ _ haR) (by rw [h2.len]; exact hl), m.nx ρ _ F3 L _ _ σ o ((s1.trans s2).trans s3) (hU F3 q _ _ (Same.refl _) (.inl (by rw [h1]; simp)) (hw.put F3 M _ _ hP (h2.put k r1' hn))) (g.mono ((s1.trans s2).trans s3)) (k3.setR haR)⟩
/-- C(..), whatever it does -/
theorem emake (fn : FnN X.prog X.w X.K X.mg X.base k C x (lift CA (pmW sp))) (hr : Room (k + 1) X.A) (ha : EvVA X ((ThW R0).om w) ρ (e :: es) svs)
    (h : ∀ a dx, dx ≠ a → sp (.raw (.ref a) :: svs) (w ++ [InsT C a dx []]) (resS (fun sv w2 => sv = .d .none ∧ O (.raw (.ref a)) w2) Ox)) (hg : Gl X x := by rfl) (hdb : (x == ("__debug__" : Str)) = false := by decide)
    (he : starEach (e :: es) X.env = (false, eval e X.env) :: starEach es X.env := by rfl) (hpl : (backTo pos (starEach es X.env)).any (·.1) = false := by rfl) : EvS X CA (ThW R0) ρ w (.Call (.Name x p) (e :: es) [] pos) O Ox :=
  es_make fn hr (EvVA.s ha h) hg hdb he hpl
end
/-- fields that a maker has begun -/
theorem insW_T {C a dx : Addr} (hne : dx ≠ a) : InsW (InsT C a dx []) C a [] (InsS C a dx) := by
  refine ⟨fun F M ⟨h1, _⟩ => ⟨dx, [], h1, .nil⟩, fun F M dx' fs fs' fss' ⟨h1, h2⟩ h4 r => ⟨fs', ?_, ?_, r⟩⟩
  · rw [h1] at h4
    cases h4
    exact upd_same
  · rw [upd_ne hne]
    exact h2
theorem joinD {κ : Type} [DecidableEq κ] {D : KD κ} {F R0 R : Hp} {w : List Thing} {i : Nat} {t t' : Thing} {q : Addr} {kss : List (κ × Sv)} (h : Sep F R0 (w ++ [DicS D q kss]) R) (hi : w[i]? = some t) (hp : ∀ M N, t.P F M → (DicS D q kss).P F N → (∀ a, M a = none ∨ N a = none) → t'.P F (un M N)) : Sep F R0 (w.set i t') R := by
  obtain ⟨hlt, _⟩ := List.getElem?_eq_some_iff.mp hi
  have h1 : (w ++ [DicS D q kss])[i]? = some t := by
    rw [List.getElem?_append_left hlt]
    exact hi
  have h2 : (w ++ [DicS D q kss])[w.length]? = some (DicS D q kss) := by simp
  have h3 := Sep.join (t' := t') h h1 h2 (Nat.ne_of_lt hlt) hp
  have e : ((w ++ [DicS D q kss]).set i t').set w.length EmpT = w.set i t' ++ [EmpT] := by
    rw [List.set_append_left _ _ hlt]
    have : w.length = (w.set i t').length := by simp
    rw [this, List.set_append_right _ _ (Nat.le_refl _)]
    simp
  rw [e] at h3
  exact h3.drop
/-! sorted(d.keys()), texts or ints -/
def sortS (l : List Str) : List Str := l.mergeSort (PySem.W.dataLe false PyData.str)
def sortI (l : List Int) : List Int := l.mergeSort (PySem.W.dataLe false PyData.int)
theorem alikeK {α : Type} (f : α → L2.Key) (g : α → PyData) (h : ∀ x, keyD (f x) = g x) (hk : (∃ q : α → Str, ∀ x, g x = .str (q x)) ∨ ∃ q : α → Int, ∀ x, g x = .int (q x)) (l : List α) : PySem.W.AllAlike ((l.map f).map keyD) ∧ PySem.W.Sortable ((l.map f).map keyD) := by
  rcases hk with ⟨q, hq⟩ | ⟨q, hq⟩
  · have e : (l.map f).map keyD = (l.map q).map PyData.str := by
      rw [List.map_map, List.map_map]
      exact List.map_congr_left fun x _ => (h x).trans (hq x)
    rw [e]
    exact ⟨strs_alike _, strs_sortable _⟩
  · have e : (l.map f).map keyD = (l.map q).map PyData.int := by
      rw [List.map_map, List.map_map]
      exact List.map_congr_left fun x _ => (h x).trans (hq x)
    rw [e]
    refine ⟨fun d hd e he => ?_, .inr fun d hd => ?_⟩
    · obtain ⟨x, _, rfl⟩ := List.mem_map.mp hd
      obtain ⟨y, _, rfl⟩ := List.mem_map.mp he
      rfl
    · obtain ⟨x, _, rfl⟩ := List.mem_map.mp hd
      exact ⟨fun z => (by cases z), fun ys z => (by cases z)⟩
section
variable {X : Cx} {CA : Str → Addr} {R0 : Hp} {ρ : Rho} {w : List Thing} {a : Expr} {pos p apos cpos : Pos} {q : Addr} {kss : List (L2.Key × Sv)}
theorem ev_sortK {α : Type} (l : List α) (f : α → L2.Key) (g : α → PyData) (hc : X.calm = true) (hu : X.A.units + 100 < cLine) (hm : X.mg "sorted" = none) (ha : EvV X ((ThW R0).om w) ρ a (.raw (.ref q))) (hd : DicR kdK w q kss) (hk : kss.map (·.1) = l.map f) (h : ∀ x, keyD (f x) = g x) (hg2 : (∃ q : α → Str, ∀ x, g x = .str (q x)) ∨ ∃ q : α → Int, ∀ x, g x = .int (q x))
    (hg : Gl X "sorted" := by rfl) (hbase : attributeBase a "keys" X.env (eval a X.env) = eval a X.env := by rfl) (hline : (apos.endLine == cpos.line) = true := by rfl)
    (hs : starEach [.Call (.Attribute a "keys" apos) [] [] cpos] X.env = (false, eval (.Call (.Attribute a "keys" apos) [] [] cpos) X.env) :: starEach [] X.env := by rfl) (hpl : (backTo pos (starEach [] X.env)).any (·.1) = false := by rfl) :
    Ev X ((ThW R0).om w) ρ (.Call (.Name "sorted" p) [.Call (.Attribute a "keys" apos) [] [] cpos] [] pos) (.list ((l.mergeSort (PySem.W.dataLe false g)).map g)) := fun F L R H σ g' om kk Q z =>
  toE (pe_callB (cr_sortKeys hc hu) hg hm (by decide +kernel) (pa_cons (pe_keysV (pe_w a) hbase hline) pa_nil hs) (by decide) (by decide) hs hpl) (ha F L R H σ g' om kk _ fun v F1 R1 H1 s1 o1 k1 r1 => by
    cases r1
    obtain ⟨kvs, h1, h2⟩ := hd F1 R0 R1 H1 o1 k1.f k1.r
    have ek : kvs.map (·.1) = l.map f := h2.keys.trans hk
    obtain ⟨al, so⟩ := alikeK f g h hg2 l
    have em : ((kvs.map (·.1)).mergeSort (PySem.W.dataLe false keyD)).map keyD = (l.mergeSort (PySem.W.dataLe false g)).map g := by
      have e1 : (l.mergeSort (PySem.W.dataLe false g)).map f = (l.map f).mergeSort (PySem.W.dataLe false keyD) := List.map_mergeSort fun x _ y _ => by
        have eg : g = fun x => keyD (f x) := funext fun x => (h x).symm
        subst eg
        rfl
      rw [ek, ← e1, List.map_map]
      exact List.map_congr_left fun x _ => h x
    refine ⟨q, kvs, rfl, h1, fun p hp => ⟨p, q, kvs, rfl, upd_same, rd_same (same_new hp) h1, by rw [ek]; exact al, by rw [ek]; exact so, fun p2 hp2 => ?_⟩⟩
    have k2 := (k1.newF (o := KeysO p q) hp).newF (o := .lst (((kvs.map (·.1)).mergeSort (PySem.W.dataLe false keyD)).map kV)) hp2
    have s2 : Same F1 (upd (upd F1 p (KeysO p q)) p2 (.lst (((kvs.map (·.1)).mergeSort (PySem.W.dataLe false keyD)).map kV))) := (same_new (k1.f.free hp)).trans (same_new ((k1.newF (o := KeysO p q) hp).f.free hp2))
    refine z (.ref p2) _ R1 _ (s1.trans s2) (Sep.mono s2 o1) k2 ?_
    rw [← em]
    exact .lst upd_same (rpA_key _))
end
end G
end

section
set_option Elab.async false
set_option linter.all false
set_option maxRecDepth 100000
set_option maxHeartbeats 4000000
namespace G
open PySem PySem.Spec PyProof.Rows L2 Sh
section
variable {P : Program} {w : World} {K : PySem.W.Frag} {mg : Str → Option Value} {base : Heap} {CA : Str → Addr}
def ScrW (K : PySem.W.Frag) (sa : Addr) (ns : List Int) (R0 : Hp) : Wd := ⟨Unit, fun _ F R => R = R0 ∧ SqL K F sa (ns.map V.int), fun s h => ⟨h.1, same_sql s h.2⟩⟩
/-- a number out of the script -/
def pmNum (K : PySem.W.Frag) (ok : Int → Prop) : Pm := fun vs F M q e => ∃ (sa : Addr) (ns : List Int) (k : Int), vs = [.ref sa, .int k] ∧ 0 ≤ k ∧ SqL K F sa (ns.map V.int) ∧ ∀ r F', ok r → Same F F' → q (.int r) F' M
theorem pmNum_mono {ok : Int → Prop} : ∀ vs F M q q' e e', pmNum K ok vs F M q e → (∀ v F' M', q v F' M' → q' v F' M') → (∀ c F' M', e c F' M' → e' c F' M') → pmNum K ok vs F M q' e' := by
  rintro vs F M q q' e e' ⟨sa, ns, k, h1, h2, h3, h4⟩ hq _
  exact ⟨sa, ns, k, h1, h2, h3, fun r F' a b => hq _ _ _ (h4 r F' a b)⟩
theorem fn_num {x qual : Str} {params : Arguments} {body : List Stmt} {scope : Scope} {dvs : List V} {kws : List (Str × V)} {f : Addr} {fd : FuncData} {N ps : List Str} {k : Nat} {ok : Int → Prop} (Fd : FunD K x qual params body scope dvs kws f fd) (S : FnScope N ps scope) (len : ps.length = 2)
    (hbody : ∀ (cdv : Value) (A : Around) (outer : List Env) (s : Shared) (H : Hp) (E : XK) (R0 : Hp) (sa : Addr) (ns : List Int) (z : Int), Room k (A.deeper (envOfC qual scope s.heap.objs.size f cdv)) → 0 ≤ z →
      SB (cxOf (L2.CX P w) P w K mg base N qual scope f cdv A outer s H E) CA (ScrW K sa ns R0) (startS N.length [.raw (.ref sa), .d (.int z)]) () body (outS (fun _ => False) (fun sv _ => ∃ r, sv = .d (.int r) ∧ ok r) (fun _ _ => False))) :
    FnOk P w K mg base (L2.CX P w) (k + 1) f fd ps (lift CA (pmNum K ok)) := by
  refine fn_any Fd S (fun vs F M q e h => ?_) (fun cdv A outer s H E hr vs F M q e h => ?_)
  · obtain ⟨sa, ns, z, rfl, _⟩ := h
    rw [len]
    rfl
  · obtain ⟨sa, ns, z, rfl, hz, hS, hq⟩ := h
    refine ⟨ScrW K sa ns M, (), _, _, sg_start (svs := [.raw (.ref sa), .d (.int z)]) (.cons ⟨rfl, rfl⟩ (.cons ⟨.int _, rfl⟩ .nil)), ⟨rfl, hS⟩, hbody cdv A outer s H E M sa ns z hr hz, ?_, ?_, ?_, ?_, ?_⟩
    · exact fun _ _ _ _ o => o.elim
    · rintro sv w' v F' L' R' ⟨r, rfl, po⟩ s' i' r' _
      cases r'
      have e : R' = M := i'.1
      rw [e]
      exact hq r F' po s'
    · exact fun _ _ _ _ _ o => o.elim
    · exact fun _ _ o => o
    · exact fun _ _ o => o
/-- a call of such a def -/
theorem es_num {X : Cx} {Y : Wd} {ρ : Rho} {w : Y.W} {e : Expr} {es : List Expr} {pos p : Pos} {O : Sv → Y.W → Prop} {Ox : Str → Y.W → Prop} {k : Nat} {x : Str} {ok : Int → Prop} {sa : Addr} {ns : List Int} (fn : FnX X k x (lift CA (pmNum X.K ok))) (hr : Room k X.A) (hS : ∀ F R w, Y.I w F R → SqL X.K F sa (ns.map V.int))
    (h : EvSA X CA Y ρ w (e :: es) (fun svs w1 => ∃ z : Int, svs = [.raw (.ref sa), .d (.int z)] ∧ 0 ≤ z ∧ ∀ r, ok r → O (.d (.int r)) w1) Ox)
    (hg : Gl X x := by rfl) (hdb : (x == ("__debug__" : Str)) = false := by decide)
    (he : starEach (e :: es) X.env = (false, eval e X.env) :: starEach es X.env := by rfl) (hpl : (backTo pos (starEach es X.env)).any (·.1) = false := by rfl) : EvS X CA Y ρ w (.Call (.Name x p) (e :: es) [] pos) O Ox := by
  refine es_call fn hr (fun F L R H σ g i kk Q Wx tk q qx => h F L R H σ g i kk Q Wx tk (fun svs w1 vs F' R' H' o => q svs w1 vs F' R' H' ?_) qx) pmNum_mono hg hdb he hpl
  obtain ⟨z, e1, hz, o⟩ := o
  subst e1
  intro F1 L1 R1 vs1 i1 dj1 dj2 r1
  cases r1 with
  | cons r1 r2 =>
    cases r2 with
    | cons r2 r3 =>
      cases r3
      obtain ⟨r1, _⟩ := r1
      obtain ⟨r2, _⟩ := r2
      cases r1
      cases r2
      exact ⟨sa, ns, z, rfl, hz, hS F1 R1 w1 i1, fun r F2 hr' s2 s2' => ⟨.d (.int r), w1, R1, o r hr', rfl, dj2, Y.mono s2 i1, .int _, rfl⟩⟩
theorem ok_cell (t : TxtS K mg CA) (D : DefT K mg "_law_cell" T.s_law_cell) : FnF P w K mg base 1 "_law_cell" (lift CA (pmNum K fun _ => True)) := by
  refine mkFn D (ps := T.P_law_cell) (fun f fd Fd => fn_num Fd T.sc_law_cell rfl fun cdv A outer s H E R0 sa ns z hr hz => ?_) fun _ _ _ _ _ _ us hl => match us, hl with | [_, _], _ => rfl
  have hI : ∀ F R (w : Unit), (ScrW K sa ns R0).I w F R → SqL K F sa (ns.map V.int) := fun F R _ h => h.2
  refine sb_cons (s_if (est_truthL (xs := ns.map V.int) 0 (fun F R h => hI F R () h) ⟨fun hv => ?_, fun hv => ?_⟩))
  · have hne : ns ≠ [] := by
      intro e
      subst e
      simp at hv
    have hpos : (0 : Int) < ns.length := by
      have := List.length_pos_iff.mpr hne
      omega
    refine sb_one (s_ret (es_ixRaw (xs := ns.map V.int) 0 (fun F R h => hI F R () h) (es_op op_mod (Ev.s (ev_var 1) (es_lenRaw (xs := ns.map V.int) 0 t.len (fun F L R H h k => same_sql k.f (hI F R () h)) ?_)))))
    refine ⟨.int z, _, .int (z % (ns.length : Int)), rfl, rfl, ?_, rfl, z % (ns.length : Int), ns.getD (z % (ns.length : Int)).toNat 0, rfl, ?_, _, rfl, trivial⟩
    · rw [List.length_map]
      exact od_I (h := fun i j => .int (i % j)) (fun _ _ _ => .int _) hpos
    · have h1 := Int.emod_nonneg z (b := (ns.length : Int)) (by omega)
      have h2 := Int.emod_lt_of_pos z hpos
      have h3 : (z % (ns.length : Int)).toNat < ns.length := by omega
      rw [atI_map]
      have e : z % (ns.length : Int) = (((z % (ns.length : Int)).toNat : Nat) : Int) := by omega
      have h4 : ns[(z % (ns.length : Int)).toNat]? = some (ns.getD (z % (ns.length : Int)).toNat 0) := by
        rw [List.getD_eq_getElem?_getD, List.getElem?_eq_getElem h3]
        rfl
      have h5 := atI_nat h4
      rw [← e] at h5
      rw [h5]
      rfl
  · exact sb_nil (sb_one (s_ret (Ev.s ev_int ⟨0, rfl, trivial⟩)))
theorem ok_mix (t : TxtS K mg CA) (D : DefT K mg "_law_mix" T.s_law_mix) (fc : FnF P w K mg base 1 "_law_cell" (lift CA (pmNum K fun _ => True))) : FnF P w K mg base 2 "_law_mix" (lift CA (pmNum K fun r => 0 ≤ r)) := by
  refine mkFn D (ps := T.P_law_mix) (fun f fd Fd => fn_num Fd T.sc_law_mix rfl fun cdv A outer s H E R0 sa ns z hr hz => ?_) fun _ _ _ _ _ _ us hl => match us, hl with | [_, _], _ => rfl
  have nd := T.sc_law_mix.nd
  refine sb_cons (s_asg 2 nd (es_op op_mod (es_op op_add (es_num (sa := sa) (ns := ns) fc hr (fun F R _ h => h.2) (esa_cons (es_raw 0 (esa_data (ea_one (ev_var 1)) ⟨z, rfl, hz, fun r _ => Ev.s (ev_mul ev_int (ev_add (ev_var 1) ev_int) (.inl ⟨by decide, by decide⟩)) ⟨_, _, _, rfl, rfl, od_I0 (h := fun i j => .int (i + j)) (fun _ _ _ => .int _), Ev.s ev_int ⟨_, _, _, rfl, rfl, od_I (h := fun i j => .int (i % j)) (fun _ _ _ => .int _) (by decide), ?_⟩⟩⟩)))))))
  generalize hn : (r + 104729 * (z + 1)) % 4294967291 = n
  have n1 : 0 ≤ n := by
    rw [← hn]
    exact Int.emod_nonneg _ (by decide)
  have n2 : n < 4294967291 := by
    rw [← hn]
    exact Int.emod_lt_of_pos _ (by decide)
  refine sb_cons (s_asg 2 nd (Ev.s (ev_mod (ev_pow (ev_var 2) ev_int ⟨by decide, by decide, by omega⟩) ev_int (by decide)) ?_))
  generalize hn' : n ^ (5 : Int).toNat % 4294967279 = n'
  have n1' : 0 ≤ n' := by
    rw [← hn']
    exact Int.emod_nonneg _ (by decide)
  refine sb_one (s_ret (Ev.s (ev_mod (ev_add (ev_mul (ev_fdiv (ev_var 2) ev_int ⟨by decide, by decide⟩) ev_int (.inr ⟨by decide, by decide⟩)) (ev_var 2)) ev_int (by decide)) ⟨_, rfl, Int.emod_nonneg _ (by decide)⟩))
abbrev MixF (P : Program) (w : World) (K : PySem.W.Frag) (mg : Str → Option Value) (base : Heap) (CA : Str → Addr) : Prop := FnF P w K mg base 2 "_law_mix" (lift CA (pmNum K fun r => 0 ≤ r))
def preDraw : List PyData → Prop := fun ds => ∃ m : Int, ds = [.int m] ∧ 0 < m
def postDraw : List PyData → PyData → Prop := fun ds d => ∃ m r : Int, ds = [.int m] ∧ d = .int r ∧ 0 ≤ r ∧ r < m
theorem ok_draw (t : TxtS K mg CA) (D : DefT K mg "_law_draw" T.s_law_draw) (fm : MixF P w K mg base CA) : FnF P w K mg base 3 "_law_draw" (lift CA (pmT K 1 preDraw postDraw)) := by
  refine mkFn D (ps := T.P_law_draw) (fun f fd Fd => fn_town Fd T.sc_law_draw (fun ds h => ?_) fun cdv A outer s H E R0 sa ta ns n ds hr h hn => ?_) fun _ _ _ _ _ _ us hl => match us, hl with | [_, _, _], _ => rfl
  · obtain ⟨m, rfl, _⟩ := h
    rfl
  · obtain ⟨m, rfl, hm⟩ := h
    have HT : HasTown K (TownW K sa ta ns R0) sa ta ns (fun n => n) (fun _ n => n) := townW_has
    refine sb_cons (s_appR (ta := ta) 1 (Ev.s ev_int ⟨_, rfl, fun F L R v i r => ?_⟩) (hT := fun F L R H i k => ⟨_, HT.town i⟩))
    cases r
    refine ⟨_, n + 1, HT.town i, ?_, ?_, ?_⟩
    · rw [List.length_replicate]
      exact Nat.lt_of_lt_of_le (show n < 1000000 by omega) (by decide)
    · have := HT.step (n + 1) i
      rw [← zeros_succ] at this
      exact this
    · refine sb_one (s_ret (es_op op_mod (es_op op_fdiv (es_num (sa := sa) (ns := ns) fm hr (fun F R _ h => h.2) (esa_cons (es_raw 0 (esa_cons (es_lenRaw (sa := ta) (xs := List.replicate (n + 1) (.int 0)) 1 t.len (fun F L R H i k => SqL.of (k.r _ _ (HT.town i))) (esa_nil ⟨_, rfl, by omega, fun r hr0 => Ev.s ev_int ⟨_, _, _, rfl, rfl, od_I (h := fun i j => .int (i / j)) (fun _ _ _ => .int _) ⟨by decide, by decide⟩, Ev.s (ev_var 2) ⟨_, _, _, rfl, rfl, od_I (h := fun i j => .int (i % j)) (fun _ _ _ => .int _) hm, ?_⟩⟩⟩)))))))))
      exact ⟨_, rfl, ⟨m, _, rfl, rfl, Int.emod_nonneg _ (by omega), Int.emod_lt_of_pos _ hm⟩, Nat.le_succ n, Nat.le_refl _⟩
abbrev DrawF (P : Program) (w : World) (K : PySem.W.Frag) (mg : Str → Option Value) (base : Heap) (CA : Str → Addr) : Prop := FnF P w K mg base 3 "_law_draw" (lift CA (pmT K 1 preDraw postDraw))
end
end G
end

section
set_option Elab.async false
set_option linter.all false
set_option maxRecDepth 100000
set_option maxHeartbeats 4000000
namespace Sh
open PySem
/-- the shape of some marks, its sides cut off where they are empty -/
def ofMarks (marks : List (Nat × Nat)) (lo hi cl ch : Nat) : Mx := ⟨hi + 1 - lo, ch + 1 - cl, fun r c => decide ((lo + r, cl + c) ∈ marks)⟩
theorem ofMarks_good {marks : List (Nat × Nat)} {lo hi cl ch H W : Nat} (h1 : lo ∈ marks.map (·.1)) (h2 : ∀ y ∈ marks.map (·.1), lo ≤ y) (h3 : hi ∈ marks.map (·.1)) (h4 : ∀ y ∈ marks.map (·.1), y ≤ hi) (h5 : cl ∈ marks.map (·.2)) (h6 : ∀ y ∈ marks.map (·.2), cl ≤ y) (h7 : ch ∈ marks.map (·.2)) (h8 : ∀ y ∈ marks.map (·.2), y ≤ ch)
    (hb : ∀ p ∈ marks, p.1 < H ∧ p.2 < W) (hH : H ≤ 4) (hW : W ≤ 4) : (ofMarks marks lo hi cl ch).Good ∧ (ofMarks marks lo hi cl ch).h ≤ H ∧ (ofMarks marks lo hi cl ch).w ≤ W := by
  have le1 := h2 hi h3
  have le2 := h6 ch h7
  have b1 : hi < H := by
    obtain ⟨p, hp, e⟩ := List.mem_map.mp h3
    have := (hb p hp).1
    have e : p.1 = hi := e
    omega
  have b2 : ch < W := by
    obtain ⟨p, hp, e⟩ := List.mem_map.mp h7
    have := (hb p hp).2
    have e : p.2 = ch := e
    omega
  refine ⟨⟨?_, ?_, ?_, ?_, ?_, ?_, ?_, ?_⟩, ?_, ?_⟩
  · show 1 ≤ hi + 1 - lo
    omega
  · show hi + 1 - lo ≤ 4
    omega
  · show 1 ≤ ch + 1 - cl
    omega
  · show ch + 1 - cl ≤ 4
    omega
  · obtain ⟨⟨r, c⟩, hp, e⟩ := List.mem_map.mp h1
    have e : r = lo := e
    have q1 := h6 c (List.mem_map.mpr ⟨_, hp, rfl⟩)
    have q2 := h8 c (List.mem_map.mpr ⟨_, hp, rfl⟩)
    refine ⟨c - cl, ?_, ?_⟩
    · show c - cl < ch + 1 - cl
      omega
    · show decide ((lo + 0, cl + (c - cl)) ∈ marks) = true
      rw [Nat.add_zero, show cl + (c - cl) = c by omega, ← e]
      exact decide_eq_true hp
  · obtain ⟨⟨r, c⟩, hp, e⟩ := List.mem_map.mp h3
    have e : r = hi := e
    have q1 := h6 c (List.mem_map.mpr ⟨_, hp, rfl⟩)
    have q2 := h8 c (List.mem_map.mpr ⟨_, hp, rfl⟩)
    refine ⟨c - cl, ?_, ?_⟩
    · show c - cl < ch + 1 - cl
      omega
    · show decide ((lo + (hi + 1 - lo - 1), cl + (c - cl)) ∈ marks) = true
      rw [show lo + (hi + 1 - lo - 1) = r by omega, show cl + (c - cl) = c by omega]
      exact decide_eq_true hp
  · obtain ⟨⟨r, c⟩, hp, e⟩ := List.mem_map.mp h5
    have e : c = cl := e
    have q1 := h2 r (List.mem_map.mpr ⟨_, hp, rfl⟩)
    have q2 := h4 r (List.mem_map.mpr ⟨_, hp, rfl⟩)
    refine ⟨r - lo, ?_, ?_⟩
    · show r - lo < hi + 1 - lo
      omega
    · show decide ((lo + (r - lo), cl + 0) ∈ marks) = true
      rw [show lo + (r - lo) = r by omega, Nat.add_zero, ← e]
      exact decide_eq_true hp
  · obtain ⟨⟨r, c⟩, hp, e⟩ := List.mem_map.mp h7
    have e : c = ch := e
    have q1 := h2 r (List.mem_map.mpr ⟨_, hp, rfl⟩)
    have q2 := h4 r (List.mem_map.mpr ⟨_, hp, rfl⟩)
    refine ⟨r - lo, ?_, ?_⟩
    · show r - lo < hi + 1 - lo
      omega
    · show decide ((lo + (r - lo), cl + (ch + 1 - cl - 1)) ∈ marks) = true
      rw [show lo + (r - lo) = r by omega, show cl + (ch + 1 - cl - 1) = c by omega]
      exact decide_eq_true hp
  · show hi + 1 - lo ≤ H
    omega
  · show ch + 1 - cl ≤ W
    omega
def dotHash (b : Bool) : Str := (Str.ofString "." : Str) ++ PySem.Txt.mul (Str.ofString "#") (if b then 1 else 0)
theorem dotHash_cs (b : Bool) : cs (dotHash b) = if b then [46, 35] else [46] := by
  cases b <;> decide +kernel
end Sh
namespace G
open PySem PySem.Spec PyProof.Rows L2 Sh
structure TxtL (mg : Str → Option Value) : Prop where
  min : mg "min" = none
  max : mg "max" = none
  int : mg "int" = none
  sorted : mg "sorted" = none
section
variable {P : Program} {w : World} {K : PySem.W.Frag} {mg : Str → Option Value} {base : Heap} {CA : Str → Addr}
/-- a draw: es_town in short -/
theorem es_draw {X : Cx} {Y : Wd} {ρ : Rho} {w : Y.W} {e : Expr} {pos p ps pt : Pos} {O : Sv → Y.W → Prop} {Ox : Str → Y.W → Prop} {sa ta : Addr} {ns : List Int} {get : Y.W → Nat} {set : Y.W → Nat → Y.W} (HT : HasTown X.K Y sa ta ns get set) (fd : DrawF X.prog X.w X.K X.mg X.base CA) (hr : Room 3 X.A) {s t : Str} (i j : Nat) {m : Int}
    (h : Ev X (Y.om w) ρ e (.int m)) (hm : 0 < m) (hn : get w + 1 ≤ 1000000) (o : ∀ (r : Int) n', 0 ≤ r → r < m → get w ≤ n' → n' ≤ get w + 1 → O (.d (.int r)) (set w n'))
    (hi : ρ[i]? = some (some (.raw (.ref sa))) := by rfl) (hj : ρ[j]? = some (some (.raw (.ref ta))) := by rfl) (hN : X.N[i]? = some s := by rfl) (hN' : X.N[j]? = some t := by rfl)
    (hv : Vis X.env.scope s := by first | exact Or.inl rfl | exact Or.inr (Or.inl rfl) | exact Or.inr (Or.inr rfl)) (hv' : Vis X.env.scope t := by first | exact Or.inl rfl | exact Or.inr (Or.inl rfl) | exact Or.inr (Or.inr rfl)) (hd : (s == ("__debug__" : Str)) = false := by decide) (hd' : (t == ("__debug__" : Str)) = false := by decide)
    (hcd : (s == ("__classdict__" : Str)) = false := by decide) (hcd' : (t == ("__classdict__" : Str)) = false := by decide)
    (hs : starEach [.Name s ps, .Name t pt, e] X.env = (false, eval (.Name s ps) X.env) :: starEach [.Name t pt, e] X.env := by rfl) (hs' : starEach [.Name t pt, e] X.env = (false, eval (.Name t pt) X.env) :: starEach [e] X.env := by rfl) (hs2 : starEach [e] X.env = [(false, eval e X.env)] := by rfl)
    (hg : Gl X "_law_draw" := by rfl) (hpl : (backTo pos (starEach [.Name t pt, e] X.env)).any (·.1) = false := by rfl) : EvS X CA Y ρ w (.Call (.Name "_law_draw" p) [.Name s ps, .Name t pt, e] [] pos) O Ox :=
  es_town HT fd hr (esa_town i j (esa_data (ea_one h hs2) ⟨[.int m], rfl, hn, ⟨m, rfl, hm⟩, fun d n' hp h1 h2 => by
    obtain ⟨m', r, e1, rfl, h3, h4⟩ := hp
    cases e1
    exact o r n' h3 h4 h1 h2⟩) hi hj hN hN' hv hv' hd hd' hcd hcd' hs hs') hg (by decide) hs hpl
def preShape : List PyData → Prop := fun ds => ∃ most : Nat, ds = [.int (most : Int)] ∧ 1 ≤ most ∧ most ≤ 4
def postShape : List PyData → PyData → Prop := fun ds d => ∃ (most : Nat) (m : Mx), ds = [.int (most : Int)] ∧ m.Good ∧ m.h ≤ most ∧ m.w ≤ most ∧ d = shD m.enc
theorem ok_shape (t : TxtS K mg CA) (t2 : TxtL mg) (D : DefT K mg "_law_shape" T.s_law_shape) (fw : DrawF P w K mg base CA) : FnF P w K mg base 4 "_law_shape" (lift CA (pmT K 20 preShape postShape)) := by
  refine mkFn D (ps := T.P_law_shape) (fun f fd Fd => fn_town Fd T.sc_law_shape (fun ds h => ?_) fun cdv A outer s H E R0 sa ta ns n ds hr h hn => ?_) fun _ _ _ _ _ _ us hl => match us, hl with | [_, _, _], _ => rfl
  · obtain ⟨m, rfl, _⟩ := h
    rfl
  · obtain ⟨most, rfl, hm1, hm4⟩ := h
    have nd := T.sc_law_shape.nd
    have HT : HasTown K (TownW K sa ta ns R0) sa ta ns (fun n => n) (fun _ n => n) := townW_has
    -- high, wide
    refine sb_cons (s_asg 3 nd (es_op op_add (Ev.s ev_int (es_draw HT fw hr 0 1 (ev_var 2) (by omega) (show n + 1 ≤ 1000000 by omega) fun r n1 r0 r1 a1 a2 => ⟨_, _, _, rfl, rfl, od_I0 (h := fun i j => .int (i + j)) (fun _ _ _ => .int _), ?_⟩))))
    obtain ⟨high, eh⟩ : ∃ high : Nat, (1 : Int) + r = (high : Int) := ⟨(1 + r).toNat, by omega⟩
    rw [eh]
    refine sb_cons (s_asg 4 nd (es_op op_add (Ev.s ev_int (es_draw HT fw hr 0 1 (ev_var 2) (by omega) (show n1 + 1 ≤ 1000000 by omega) fun r' n2 r0' r1' b1 b2 => ⟨_, _, _, rfl, rfl, od_I0 (h := fun i j => .int (i + j)) (fun _ _ _ => .int _), ?_⟩))))
    obtain ⟨wide, ew⟩ : ∃ wide : Nat, (1 : Int) + r' = (wide : Int) := ⟨(1 + r').toNat, by omega⟩
    rw [ew]
    -- marks
    refine sb_cons (s_asgL 5 nd (esa_cons (es_tup (esa_cons (es_draw HT fw hr 0 1 (ev_var 3) (by omega) (show n2 + 1 ≤ 1000000 by omega) fun x n3 x0 x1 c1 c2 => esa_cons (es_draw HT fw hr 0 1 (ev_var 4) (by omega) (show n3 + 1 ≤ 1000000 by omega) fun y n4 y0 y1 d1 d2 => esa_nil ⟨[.int x, .int y], rfl, by simp only [List.length_cons, List.length_nil]; decide, esa_nil ⟨[_], rfl, by simp only [List.length_cons, List.length_nil]; decide, ?_⟩⟩))))))
    obtain ⟨hx, ehx⟩ : ∃ hx : Nat, x = (hx : Int) := ⟨x.toNat, by omega⟩
    obtain ⟨hy, ehy⟩ : ∃ hy : Nat, y = (hy : Int) := ⟨y.toNat, by omega⟩
    subst ehx ehy
    refine sb_cons (s_for (List.range high) (fun i : Nat => PyData.int (i : Int)) (vs := [6]) (passes_of rfl) rfl (ei_rangeN t.range (ev_var 3) (by omega))
      (fun i ρ' (n' : Nat) => ∃ (marks : List (Nat × Nat)) (o6 o7 : Option Sv), ρ' = [some (.raw (.ref sa)), some (.raw (.ref ta)), some (.d (.int (most : Int))), some (.d (.int (high : Int))), some (.d (.int (wide : Int))), some (.own (marks.map prN)), o6, o7, none, none, none, none, none] ∧
        marks ≠ [] ∧ (∀ p ∈ marks, p.1 < high ∧ p.2 < wide) ∧ marks.length ≤ 1 + 4 * i ∧ n ≤ n' ∧ n' ≤ n + 4 + 4 * i)
      ⟨[(hx, hy)], none, none, rfl, by simp, fun p hp => by simp at hp; subst hp; exact ⟨by simp only; omega, by simp only; omega⟩, Nat.le_refl _, by omega, by omega⟩ ?_ ?_)
    · rintro i i' ρ' (n' : Nat) hi ⟨marks, o6, o7, rfl, hne, hbd, hml, hn1, hn2⟩
      obtain ⟨rfl, hih⟩ := range_at hi
      refine ⟨_, tg_name 6 nd (by decide), ?_⟩
      refine sb_one (s_for (List.range wide) (fun i : Nat => PyData.int (i : Int)) (vs := [7]) (passes_of rfl) rfl (ei_rangeN t.range (ev_var 4) (by omega))
        (fun j ρ' (n'' : Nat) => ∃ (marks : List (Nat × Nat)) (o7 : Option Sv), ρ' = [some (.raw (.ref sa)), some (.raw (.ref ta)), some (.d (.int (most : Int))), some (.d (.int (high : Int))), some (.d (.int (wide : Int))), some (.own (marks.map prN)), some (.d (.int (i' : Int))), o7, none, none, none, none, none] ∧
          marks ≠ [] ∧ (∀ p ∈ marks, p.1 < high ∧ p.2 < wide) ∧ marks.length ≤ 1 + 4 * i' + j ∧ n ≤ n'' ∧ n'' ≤ n + 4 + 4 * i' + j)
        ⟨marks, o7, rfl, hne, hbd, by omega, hn1, by omega⟩ ?_ ?_)
      · rintro j j' ρ' (n'' : Nat) hj ⟨marks, o7, rfl, hne, hbd, hml, hn1, hn2⟩
        obtain ⟨rfl, hjw⟩ := range_at hj
        refine ⟨_, tg_name 7 nd (by decide), ?_⟩
        refine sb_one (s_if (est_cmp op_gt (nomark _) (es_draw HT fw hr 0 1 ev_int (by decide) (show n'' + 1 ≤ 1000000 by omega) fun z n3 z0 z1 e1 e2 => Ev.s ev_int ⟨_, _, _, rfl, rfl, od_I0 (h := fun i j => .bool (decide (j < i))) (fun _ _ _ => .bl _), fun _ => ?_, fun _ => ?_⟩)))
        · refine sb_one (s_app 5 rfl (Ev.s (d := prN (i', j')) (ev_tup (ea_cons (ev_var 6) (ea_one (ev_var 7)))) ⟨_, rfl, ?_, marks ++ [(i', j')], some (.d (.int (j' : Int))), ?_, by simp, ?_, ?_, ?_, ?_⟩))
          · rw [List.length_map]
            exact Nat.lt_of_le_of_lt (show _ ≤ 100 by omega) (by decide)
          · rw [List.map_append]
            rfl
          · intro p hp
            rcases List.mem_append.mp hp with hp | hp
            · exact hbd p hp
            · have : p = (i', j') := by simpa using hp
              subst this
              exact ⟨hih, hjw⟩
          · rw [List.length_append]
            simp
            omega
          · exact Nat.le_trans hn1 e1
          · have := e2
            show n3 ≤ _
            omega
        · exact sb_nil ⟨marks, _, rfl, hne, hbd, by omega, Nat.le_trans hn1 e1, by show n3 ≤ _; omega⟩
      · rintro ρ' (n'' : Nat) ⟨marks, o7, rfl, hne, hbd, hml, hn1, hn2⟩
        rw [List.length_range] at hml hn2
        exact ⟨marks, _, _, rfl, hne, hbd, by omega, hn1, by omega⟩
    · rintro ρ' (n' : Nat) ⟨marks, o6, o7, rfl, hne, hbd, hml, hn1, hn2⟩
      rw [List.length_range] at hml hn2
      refine sb_freeze 5 rfl ?_
      have hml : marks.length < sizeLine := Nat.lt_of_le_of_lt (show _ ≤ 100 by omega) (by decide)
      -- rows, columns
      refine sb_cons (s_asgC (own := [("row", 6), ("column", 7)]) 8 rfl nd (blkOk_by (N := T.N_law_shape) (sc := defScope T.s_law_shape) (by decide +kernel))
        (lc_map marks prN (fun p => .int (p.1 : Int)) (fun p => _) (EvI.c (ei_list (ev_var 5))) hml (fun _ _ _ _ _ p hp => tg_tup rfl (tgs_cons (tg_name 6 nd (by decide)) (tgs_cons (tg_name 7 nd (by decide)) tgs_nil))) (fun _ _ _ _ _ p hp => ev_var 6)) ?_)
      refine sb_cons (s_asgC (own := [("row", 6), ("column", 7)]) 9 rfl nd (blkOk_by (N := T.N_law_shape) (sc := defScope T.s_law_shape) (by decide +kernel))
        (lc_map marks prN (fun p => .int (p.2 : Int)) (fun p => _) (EvI.c (ei_list (ev_var 5))) hml (fun _ _ _ _ _ p hp => tg_tup rfl (tgs_cons (tg_name 6 nd (by decide)) (tgs_cons (tg_name 7 nd (by decide)) tgs_nil))) (fun _ _ _ _ _ p hp => ev_var 7)) ?_)
      have hne1 : marks.map (·.1) ≠ [] := by simpa using hne
      have hne2 : marks.map (·.2) ≠ [] := by simpa using hne
      obtain ⟨lo, l1, l2⟩ := has_min hne1
      obtain ⟨hi, u1, u2⟩ := has_max hne1
      obtain ⟨cl, k1, k2⟩ := has_min hne2
      obtain ⟨ch, v1, v2⟩ := has_max hne2
      obtain ⟨g, gh, gw⟩ := ofMarks_good l1 l2 u1 u2 k1 k2 v1 v2 hbd (by omega) (by omega)
      have hm : ∀ (fz : Nat × Nat → Nat), (marks.map fun p => PyData.int (fz p : Int)) = ((marks.map fz).map fun z : Nat => (z : Int)).map PyData.int := fun fz => by
        rw [List.map_map, List.map_map]
        rfl
      have mm : ∀ (l : List Nat) (z : Nat), z ∈ l → (z : Int) ∈ l.map fun z : Nat => (z : Int) := fun l z hz => List.mem_map.mpr ⟨z, hz, rfl⟩
      have ml : ∀ (l : List Nat) (z : Nat), (∀ y ∈ l, z ≤ y) → ∀ y ∈ l.map (fun z : Nat => (z : Int)), (z : Int) ≤ y := fun l z hz y hy => by
        obtain ⟨u, hu, rfl⟩ := List.mem_map.mp hy
        have := hz u hu
        omega
      have mu : ∀ (l : List Nat) (z : Nat), (∀ y ∈ l, y ≤ z) → ∀ y ∈ l.map (fun z : Nat => (z : Int)), y ≤ (z : Int) := fun l z hz y hy => by
        obtain ⟨u, hu, rfl⟩ := List.mem_map.mp hy
        have := hz u hu
        omega
      rw [hm (·.1), hm (·.2)]
      have bh : hi ≤ 100 := by
        have := gh
        have : hi + 1 - lo ≤ high := gh
        obtain ⟨p, hp, e⟩ := List.mem_map.mp l1
        have := (hbd p hp).1
        have e : p.1 = lo := e
        omega
      have bw : ch ≤ 100 := by
        have : ch + 1 - cl ≤ wide := gw
        obtain ⟨p, hp, e⟩ := List.mem_map.mp k1
        have := (hbd p hp).2
        have e : p.2 = cl := e
        omega
      have lohi := l2 hi u1
      have clch := k2 ch v1
      refine sb_cons (s_asgL 10 nd (esa_nil ⟨[], rfl, by decide, ?_⟩))
      refine sb_cons (s_for (List.range (hi + 1 - lo)) (fun i : Nat => PyData.int ((lo + i : Nat) : Int)) (vs := [6]) (passes_of rfl) rfl
        (ei_rangeAB t.range (ev_min rfl t2.min (ev_var 8) (mm _ lo l1) (ml _ lo l2)) (Ev.is (ev_add (ev_max rfl t2.max (ev_var 8) (mm _ hi u1) (mu _ hi u2)) ev_int) (by simp)) (by omega) (by omega))
        (fun i ρ' (n'' : Nat) => n'' = n' ∧ ∃ (o6 o11 : Option Sv), ρ' = [some (.raw (.ref sa)), some (.raw (.ref ta)), some (.d (.int (most : Int))), some (.d (.int (high : Int))), some (.d (.int (wide : Int))), some (.d (.list (marks.map prN))), o6, o7,
          some (.d (.list (((marks.map (·.1)).map fun z : Nat => (z : Int)).map PyData.int))), some (.d (.list (((marks.map (·.2)).map fun z : Nat => (z : Int)).map PyData.int))), some (.own (((ofMarks marks lo hi cl ch).enc.take i).map PyData.str)), o11, none])
        ⟨rfl, o6, none, rfl⟩ ?_ ?_)
      · rintro i i' ρ' n'' hi' ⟨rfl, o6, o11, rfl⟩
        obtain ⟨rfl, hih⟩ := range_at hi'
        refine ⟨_, tg_name 6 nd (by decide), ?_⟩
        refine sb_cons (s_asgC (own := [("column", 7)]) 11 rfl nd (blkOk_by (N := T.N_law_shape) (sc := defScope T.s_law_shape) (by decide +kernel))
          (lc_map (List.range (ch + 1 - cl)) (fun i : Nat => PyData.int ((cl + i : Nat) : Int)) (fun j => .str (dotHash ((ofMarks marks lo hi cl ch).f i' j))) (fun p => _)
            (EvI.c (ei_rangeAB t.range (ev_min rfl t2.min (ev_var 9) (mm _ cl k1) (ml _ cl k2)) (Ev.is (ev_add (ev_max rfl t2.max (ev_var 9) (mm _ ch v1) (mu _ ch v2)) ev_int) (by simp)) (by omega) (by omega)))
            (by rw [List.length_range]; exact Nat.lt_of_le_of_lt (show _ ≤ 101 by omega) (by decide)) (fun _ _ _ _ _ p hp => tg_name 7 nd (by decide))
            (fun _ _ _ _ _ j hj => ?_)) ?_)
        · refine Ev.is (ev_addS ev_str (ev_mulS ev_str (ev_intB t2.int (Ev.is (ev_in (d := prN (lo + i', cl + j)) (ds := marks.map prN) (u65 hr) (ev_tup (ea_cons (ev_var 6) (ea_one (ev_var 7)))) (ev_var 5) (fit_prN _).shaped (Da.fit_list (Da.fit_map fun p _ => fit_prN p)).shaped) (congrArg PyData.bool (show _ = (ofMarks marks lo hi cl ch).f i' j from (Da.any_eq fun x _ => eq_prN x _).trans (Da.dec_same _ _))))) ?_) ?_) ?_
          · exact mulOk_of 1 1 (by decide +kernel) (by split <;> decide) (by split <;> decide) (by decide) (by decide)
          · have : (dotHash ((ofMarks marks lo hi cl ch).f i' j)).length ≤ 2 := by
              rw [TL.len_tl]
              show (cs _).length ≤ 2
              rw [dotHash_cs]
              split <;> decide
            have e : (dotHash ((ofMarks marks lo hi cl ch).f i' j)).length = (Str.ofString ".").length + (PySem.Txt.mul (Str.ofString "#") (if (ofMarks marks lo hi cl ch).f i' j then 1 else 0)).length := by
              rw [TL.len_tl, TL.len_tl, TL.len_tl]
              unfold dotHash
              rw [TL.tl_append, List.length_append]
            exact Nat.le_trans (Nat.le_of_eq e.symm) (Nat.le_trans this (by decide))
          · rfl
        · have hi2 : i' < (ofMarks marks lo hi cl ch).h := hih
          have hw : ch + 1 - cl = (ofMarks marks lo hi cl ch).w := rfl
          have w4 := g.w4
          have h4 := g.h4
          rw [hw]
          generalize ofMarks marks lo hi cl ch = m at *
          refine sb_one (s_app 10 rfl (Ev.s (d := .str (Mx.rowS m.w (m.f i'))) (Ev.is (ev_joinL (ys := (List.range m.w).map fun j => (⟨#[if m.f i' j then 35 else 46]⟩ : Str)) ev_str
            (Ev.is (ev_lcp (own := [("one", 12)]) rfl nd (blkOk_by (N := T.N_law_shape) (sc := defScope T.s_law_shape) (by decide +kernel))
              (lc_map (List.range m.w) (fun j => .str (dotHash (m.f i' j))) (fun j => .str ⟨#[if m.f i' j then 35 else 46]⟩) (fun p => _) (EvI.c (ei_list (ev_var 11))) ?_ (fun _ _ _ _ _ p hp => tg_name 12 nd (by decide))
                (fun _ _ _ _ _ j hj => ev_ixS (ev_var 12) (ev_neg ev_int) ?_ ?_))) ?_) ?_) ?_) ⟨_, rfl, ?_, rfl, some (.d (.int ((lo + i' : Nat) : Int))), some (.d (.list ((List.range m.w).map fun j => .str (dotHash (m.f i' j))))), ?_⟩))
          · rw [List.length_range]
            exact Nat.lt_of_le_of_lt w4 (by decide)
          · show atI (cs (dotHash (m.f i' j))) (-1) = _
            rw [dotHash_cs]
            cases m.f i' j <;> rfl
          · rw [TL.len_tl]
            show (cs _).length ≤ _
            rw [dotHash_cs]
            cases m.f i' j <;> decide
          · rw [List.map_map]
            rfl
          · have h1 := sum_len ((List.range m.w).map fun j => (⟨#[if m.f i' j then 35 else 46]⟩ : Str)) (fun z hz => by
              obtain ⟨_, _, rfl⟩ := List.mem_map.mp hz
              show 1 ≤ 100
              decide)
            have e2 : (Str.ofString "").length = 0 := by decide +kernel
            rw [List.length_map, List.length_range] at h1
            rw [e2]
            omega
          · refine congrArg PyData.str (TL.ext_tl ?_)
            show cs (Txt.join (Str.ofString "") _) = cs (Mx.rowS m.w (m.f i'))
            rw [cs_join, List.map_map, show cs (Mx.rowS m.w (m.f i')) = _ from Mx.rowS_cs _ _]
            exact flat_one (fun j => if m.f i' j then 35 else 46) (List.range m.w)
          · rw [List.length_map, List.length_take]
            exact Nat.lt_of_le_of_lt (show _ ≤ 100 by omega) (by decide)
          · have e : m.enc.take (i' + 1) = m.enc.take i' ++ [Mx.rowS m.w (m.f i')] := by
              have h3 := enc_get hi2
              obtain ⟨h5, h6⟩ := List.getElem?_eq_some_iff.mp h3
              rw [List.take_succ_eq_append_getElem h5, h6]
            rw [e, List.map_append]
            rfl
      · rintro ρ' n'' ⟨rfl, o6, o11, rfl⟩
        refine sb_freeze 10 rfl ?_
        refine sb_one (s_ret (Ev.s (d := shD (ofMarks marks lo hi cl ch).enc) (Ev.is (ev_tuple t.tuple (ev_var 10)) ?_) ⟨_, rfl, ⟨most, _, rfl, g, by omega, by omega, rfl⟩, hn1, by omega⟩))
        rw [List.length_range, List.take_of_length_le (by rw [enc_len]; exact Nat.le_refl _)]
        rfl
end
end G
end

section
set_option Elab.async false
set_option linter.all false
set_option maxRecDepth 100000
set_option maxHeartbeats 4000000
namespace Sh
open PySem
theorem prI_cast (p : Nat × Nat) : prI (castP p) = prN p := rfl
theorem fit_prI (p : Int × Int) : Da.Fit 1 (prI p) := Da.fit_tup (Da.fit_cons (Da.fit_int _) (Da.fit_cons (Da.fit_int _) Da.fit_nil))
theorem prI_alike (S : List (Int × Int)) : PySem.W.AllAlike (S.map prI) := PySem.W.AllAlike.of fun a b => by
  simp [prI, PySem.W.alike, PySem.W.alikeAll]
theorem prI_sortable (S : List (Int × Int)) : PySem.W.Sortable (S.map prI) := PySem.W.Sortable.tuples fun b => ⟨_, _, rfl⟩
end Sh
namespace G
open PySem PySem.Spec PyProof.Rows L2 Sh
section
variable {P : Program} {w : World} {K : PySem.W.Frag} {mg : Str → Option Value} {base : Heap} {CA : Str → Addr}
def relLawCells : List PyData → Res → Prop := fun ds o => ∃ (m : Mx) (n : Nat), m.Good ∧ ds = [shD m.enc, .int (n : Int)] ∧ o = .ok (cellsD (Mx.turnN (n % 4) m).cells)
abbrev LCellsF (P : Program) (w : World) (K : PySem.W.Frag) (mg : Str → Option Value) (base : Heap) (CA : Str → Addr) : Prop := FnF P w K mg base 1 "_law_cells" (lift CA (pmD relLawCells))
/-! _law_turns: by cells -/
def relLawTurns : List PyData → Res → Prop := fun ds o => ∃ m : Mx, m.Good ∧ ds = [shD m.enc] ∧ o = .ok (natsD (turnsM m))
abbrev LTurnsF (P : Program) (w : World) (K : PySem.W.Frag) (mg : Str → Option Value) (base : Heap) (CA : Str → Addr) : Prop := FnF P w K mg base 2 "_law_turns" (lift CA (pmD relLawTurns))
end
end G
end

section
set_option Elab.async false
set_option linter.all false
set_option maxRecDepth 100000
set_option maxHeartbeats 4000000
namespace Sh
open PySem
theorem cells_maxR {m : Mx} (g : m.Good) : ((m.h : Int) - 1) ∈ m.cells.map (fun p => (p.1 : Int)) ∧ ∀ y ∈ m.cells.map (fun p => (p.1 : Int)), y ≤ (m.h : Int) - 1 := by
  obtain ⟨c, h1, h2⟩ := g.bot
  have := g.h1
  refine ⟨List.mem_map.mpr ⟨(m.h - 1, c), Mx.mem_cells.mpr ⟨by show m.h - 1 < m.h; omega, h1, h2⟩, by show ((m.h - 1 : Nat) : Int) = _; omega⟩, fun y hy => ?_⟩
  obtain ⟨p, hp, rfl⟩ := List.mem_map.mp hy
  have := (Mx.mem_cells.mp hp).1
  omega
theorem cells_maxC {m : Mx} (g : m.Good) : ((m.w : Int) - 1) ∈ m.cells.map (fun p => (p.2 : Int)) ∧ ∀ y ∈ m.cells.map (fun p => (p.2 : Int)), y ≤ (m.w : Int) - 1 := by
  obtain ⟨r, h1, h2⟩ := g.rig
  have := g.w1
  refine ⟨List.mem_map.mpr ⟨(r, m.w - 1), Mx.mem_cells.mpr ⟨h1, by show m.w - 1 < m.w; omega, h2⟩, by show ((m.w - 1 : Nat) : Int) = _; omega⟩, fun y hy => ?_⟩
  obtain ⟨p, hp, rfl⟩ := List.mem_map.mp hy
  have := (Mx.mem_cells.mp hp).2.1
  omega
theorem cells_len {m : Mx} (g : m.Good) : m.cells.length ≤ 16 := by
  have h1 := G.flat_le m m.h
  have h3 : m.h * m.w ≤ 4 * 4 := Nat.mul_le_mul g.h4 g.w4
  exact Nat.le_trans h1 h3
end Sh
namespace G
open PySem PySem.Spec PyProof.Rows L2 Sh
section
variable {P : Program} {w : World} {K : PySem.W.Frag} {mg : Str → Option Value} {base : Heap} {CA : Str → Addr}
def relDrawn : List PyData → Res → Prop := fun ds o => ∃ m : Mx, m.Good ∧ ds = [cellsD m.cells] ∧ o = .ok (shD m.enc)
def prePick : List PyData → Prop := fun ds => ∃ xs : List PyData, ds = [.list xs] ∧ xs ≠ [] ∧ xs.length ≤ 1000
def postPick : List PyData → PyData → Prop := fun ds d => ∃ xs : List PyData, ds = [.list xs] ∧ d ∈ xs
end
end G
end

section
set_option Elab.async false
set_option linter.all false
set_option maxRecDepth 100000
set_option maxHeartbeats 4000000
namespace G
open PySem PySem.Spec PyProof.Rows L2 Sh
def errW : List Str := ["shape", "kind", "number", "place", "pile", "slot", "text"]
/-- what the top has left of the program's own exceptions -/
structure TxtX (K : PySem.W.Frag) (mg : Str → Option Value) (CA : Str → Addr) : Prop where
  isi : mg "isinstance" = none
  ve : mg "ValueError" = none
  bag : ∃ B, mg "BagError" = some (.ref B) ∧ ∀ c ∈ errs, PySem.W.exmOne K (.ref (CA c)) (.ref B) = some true
  c : ∀ c ∈ errs, ExcC K (CA c)
  g : ∀ c ∈ errs, mg c = some (.ref (CA c))
  k : ∀ c ∈ errs, ∀ c' ∈ errs, PySem.W.kitOne K (.ref (CA c)) (.ref (CA c')) = some (decide (c = c'))
  v : ∀ c ∈ errs, PySem.W.kitOne K (.ref (CA c)) (.type "ValueError") = some true
def refusedD (z : Str) : PyData := .tuple [.str "refused", .str z]
def okD : PyData := .tuple [.str "ok"]
/-- None, or the j-th of the program's exceptions: what _law_refusal tells -/
def Refusal (CA : Str → Addr) (sv : Sv) (r : PyData) : Prop := (sv = .d .none ∧ r = okD) ∨ ∃ (j : Nat) (c z : Str), errs[j]? = some c ∧ errW[j]? = some z ∧ sv = .exc (CA c) ∧ r = refusedD z
def pmR (CA : Str → Addr) : Pm := fun vs F M q e => ∃ v sv r, vs = [v] ∧ RpS F no v sv ∧ Refusal CA sv r ∧ ∀ v' F', Same F F' → Rp F' v' r → q v' F' M
theorem pmR_mono {CA : Str → Addr} : ∀ vs F M q q' e e', pmR CA vs F M q e → (∀ v F' M', q v F' M' → q' v F' M') → (∀ c F' M', e c F' M' → e' c F' M') → pmR CA vs F M q' e' := by
  rintro vs F M q q' e e' ⟨v, sv, r, h1, h2, h3, h4⟩ hq _
  exact ⟨v, sv, r, h1, h2, h3, fun v' F' a b => hq _ _ _ (h4 v' F' a b)⟩
theorem RpS.noL {F L L' : Hp} {v : V} : ∀ {sv : Sv}, isOwn sv = false → RpS F L v sv → RpS F L' v sv
  | .d _, _, h => h
  | .raw _, _, h => h
  | .exc _, _, h => h
section
variable {X : Cx} {CA : Str → Addr} {Y : Wd} {ρ : Rho} {w : Y.W} {e : Expr} {pos p : Pos} {O : Sv → Y.W → Prop} {Ox : Str → Y.W → Prop}
theorem es_refusal {k : Nat} (fn : FnX X k "_law_refusal" (lift CA (pmR CA))) (hr : Room k X.A) (h : EvS X CA Y ρ w e (fun sv w1 => ∃ r, Refusal CA sv r ∧ O (.d r) w1) Ox) (hg : Gl X "_law_refusal" := by rfl)
    (he : starEach [e] X.env = (false, eval e X.env) :: starEach [] X.env := by rfl) (hpl : (backTo pos (starEach [] X.env)).any (·.1) = false := by rfl) : EvS X CA Y ρ w (.Call (.Name "_law_refusal" p) [e] [] pos) O Ox := by
  refine es_call fn hr (esa_cons (h.imp (fun sv w1 o => esa_nil ?_) (fun _ _ z => z)) he) pmR_mono hg (by decide) he hpl
  obtain ⟨r, h1, h2⟩ := o
  intro F1 L1 R1 vs1 i1 dj1 dj2 r1
  cases r1 with
  | cons r1 r2 =>
    cases r2
    exact ⟨_, sv, r, rfl, RpS.noL r1.2 r1.1, h1, fun v' F' s' r' s'' => ⟨.d r, w1, R1, h2, rfl, dj2, Y.mono s' i1, r', rfl⟩⟩
end
theorem errs_at {j : Nat} {c z : Str} (h1 : errs[j]? = some c) (h2 : errW[j]? = some z) : c ∈ errs ∧ (errs.map fun e => decide (c = e)).count true = 1 ∧ (errs.map fun e => decide (c = e))[j]? = some true ∧ ∀ m, m < j → (errs.map fun e => decide (c = e))[m]? = some false := by
  have hj : j < 7 := (List.getElem?_eq_some_iff.mp h1).1
  refine ⟨List.mem_of_getElem? h1, ?_, ?_, ?_⟩
  · match j, hj, h1 with
    | 0, _, h1 => cases h1; decide
    | 1, _, h1 => cases h1; decide
    | 2, _, h1 => cases h1; decide
    | 3, _, h1 => cases h1; decide
    | 4, _, h1 => cases h1; decide
    | 5, _, h1 => cases h1; decide
    | 6, _, h1 => cases h1; decide
  · rw [List.getElem?_map, h1]
    simp
  · intro m hm
    match j, hj, h1 with
    | 0, _, h1 => omega
    | 1, _, h1 => cases h1; match m, hm with | 0, _ => decide
    | 2, _, h1 => cases h1; match m, hm with | 0, _ => decide | 1, _ => decide
    | 3, _, h1 => cases h1; match m, hm with | 0, _ => decide | 1, _ => decide | 2, _ => decide
    | 4, _, h1 => cases h1; match m, hm with | 0, _ => decide | 1, _ => decide | 2, _ => decide | 3, _ => decide
    | 5, _, h1 => cases h1; match m, hm with | 0, _ => decide | 1, _ => decide | 2, _ => decide | 3, _ => decide | 4, _ => decide
    | 6, _, h1 => cases h1; match m, hm with | 0, _ => decide | 1, _ => decide | 2, _ => decide | 3, _ => decide | 4, _ => decide | 5, _ => decide
section
variable {P : Program} {w : World} {K : PySem.W.Frag} {mg : Str → Option Value} {base : Heap} {CA : Str → Addr}
/-- isinstance(held, C) -/
theorem ev_isC {X : Cx} {Ω : Om} {ρ : Rho} {px py p pos : Pos} {c c' x : Str} (i : Nat) (tx : TxtX X.K X.mg CA) (hc : c ∈ errs) (hc' : c' ∈ errs) (h : ρ[i]? = some (some (.exc (CA c))) := by rfl) (hg : Gl X c' := by rfl) (hdb : (c' == ("__debug__" : Str)) = false := by decide) (hN : X.N[i]? = some x := by rfl)
    (hv : Vis X.env.scope x := by first | exact Or.inl rfl | exact Or.inr (Or.inl rfl) | exact Or.inr (Or.inr rfl)) (hd : (x == ("__debug__" : Str)) = false := by decide) (hcd : (x == ("__classdict__" : Str)) = false := by decide) (hgi : Gl X "isinstance" := by rfl)
    (hs : starEach [.Name x px, .Name c' py] X.env = (false, eval (.Name x px) X.env) :: starEach [.Name c' py] X.env := by rfl) (hs2 : starEach [.Name c' py] X.env = (false, eval (.Name c' py) X.env) :: starEach [] X.env := by rfl) (hpl : (backTo pos (starEach [.Name c' py] X.env)).any (·.1) = false := by rfl) :
    Ev X Ω ρ (.Call (.Name "isinstance" p) [.Name x px, .Name c' py] [] pos) (.bool (decide (c = c'))) :=
  ev_isH i tx.isi (tx.c c hc) ⟨.ref (CA c'), pe_glob hg (tx.g c' hc') rfl hdb, fun u r => r⟩ (tx.k c hc c' hc') h hN hv hd hcd hgi hs hs2 hpl
abbrev RefusalF (P : Program) (w : World) (K : PySem.W.Frag) (mg : Str → Option Value) (base : Heap) (CA : Str → Addr) : Prop := FnF P w K mg base 1 "_law_refusal" (lift CA (pmR CA))
end
end G
end

section
set_option Elab.async false
set_option linter.all false
set_option maxRecDepth 100000
set_option maxHeartbeats 4000000
/-! ### slices; in a tuple of data; laws over things -/
namespace G
open PySem PySem.Spec PyProof.Rows L2
theorem RpA.drop' {F : Hp} : ∀ {vs : List V} {ds : List PyData}, RpA F vs ds → ∀ n, RpA F (vs.drop n) (ds.drop n)
  | _, _, .nil, n => by simpa using RpA.nil
  | _, _, .cons h r, 0 => .cons h r
  | _, _, .cons h r, n + 1 => RpA.drop' r n
theorem RpA.take' {F : Hp} : ∀ {vs : List V} {ds : List PyData}, RpA F vs ds → ∀ n, RpA F (vs.take n) (ds.take n)
  | _, _, .nil, n => by simpa using RpA.nil
  | _, _, .cons h r, 0 => .nil
  | _, _, .cons h r, n + 1 => .cons h (RpA.take' r n)
def cutD {α : Type} (xs : List α) (lo hi : Option Int) : List α := (xs.drop (HT.sIx xs.length 0 lo)).take (HT.sIx xs.length xs.length hi - HT.sIx xs.length 0 lo)
theorem RpA.cut {F : Hp} {vs : List V} {ds : List PyData} (r : RpA F vs ds) (lo hi : Option Int) : RpA F (cutV vs lo hi) (cutD ds lo hi) := by
  unfold cutV cutD
  rw [r.length]
  exact (r.drop' _).take' _
def EvP (X : Cx) (Ω : Om) (ρ : Rho) (e : Option Expr) (o : Option Int) : Prop := match e with
  | none => o = none
  | some e => ∃ i, o = some i ∧ Ev X Ω ρ e (.int i)
section
variable {X : Cx} {Ω : Om} {ρ : Rho} {a b e : Expr} {lo hi : Option Expr} {pos p2 : Pos} {l h : Option Int} {ds : List PyData} {d : PyData}
theorem ep_none : EvP X Ω ρ none none := rfl
theorem ep_some {i : Int} (h : Ev X Ω ρ e (.int i)) : EvP X Ω ρ (some e) (some i) := ⟨i, rfl, h⟩
theorem part_run (hl : EvP X Ω ρ lo l) : ∃ t : TO, PO X lo t ∧ ∀ F L R H σ, Sg F L σ ρ → Ω.I F R → Ok F L R H → ∀ Q : Option Int → Hp → Prop, (∀ F' R' H', Same F F' → Ω.I F' R' → Ok F' L R' H' → Q l H') → t σ H Q := by
  cases lo with
  | none =>
    cases hl
    exact ⟨_, po_none, fun F L R H σ g om k Q q => q F R H (Same.refl F) om k⟩
  | some e =>
    obtain ⟨i, rfl, he⟩ := hl
    refine ⟨_, po_some (pe_w e), fun F L R H σ g om k Q q => he F L R H σ g om k _ fun v F1 R1 H1 s1 o1 k1 r1 => ?_⟩
    cases r1
    exact ⟨i, rfl, q F1 R1 H1 s1 o1 k1⟩
theorem ev_cutL (he : Ev X Ω ρ e (.list ds)) (hl : EvP X Ω ρ lo l) (hh : EvP X Ω ρ hi h) : Ev X Ω ρ (.Subscript e (.Slice lo hi none p2) pos) (.list (cutD ds l h)) := fun F L R H σ g om k Q q => by
  obtain ⟨tl, pl, ql⟩ := part_run hl
  obtain ⟨th, ph, qh⟩ := part_run hh
  refine toE (pe_slice sl_list (pe_w e) pl ph) (he F L R H σ g om k _ fun x F1 R1 H1 s1 o1 k1 r1 => ql F1 L R1 H1 σ (g.mono s1) o1 k1 _ fun F2 R2 H2 s2 o2 k2 => qh F2 L R2 H2 σ (g.mono (s1.trans s2)) o2 k2 _ fun F3 R3 H3 s3 o3 k3 => ?_)
  cases r1 with
  | lst h1 r => exact ⟨_, _, rfl, SqL.of (k3.f _ _ (s3 _ _ (s2 _ _ h1))), To.lst ((q.same ((s1.trans s2).trans s3)).to o3) k3 ((r.mono (s2.trans s3)).cut l h)⟩
theorem ev_cutT (he : Ev X Ω ρ e (.tuple ds)) (hl : EvP X Ω ρ lo l) (hh : EvP X Ω ρ hi h) : Ev X Ω ρ (.Subscript e (.Slice lo hi none p2) pos) (.tuple (cutD ds l h)) := fun F L R H σ g om k Q q => by
  obtain ⟨tl, pl, ql⟩ := part_run hl
  obtain ⟨th, ph, qh⟩ := part_run hh
  refine toE (pe_slice sl_tupA (pe_w e) pl ph) (he F L R H σ g om k _ fun x F1 R1 H1 s1 o1 k1 r1 => ql F1 L R1 H1 σ (g.mono s1) o1 k1 _ fun F2 R2 H2 s2 o2 k2 => qh F2 L R2 H2 σ (g.mono (s1.trans s2)) o2 k2 _ fun F3 R3 H3 s3 o3 k3 => ?_)
  cases r1 with
  | @tup a' xs _ h1 r =>
    have hf := k3.f _ _ (s3 _ _ (s2 _ _ h1))
    refine ⟨a', xs, rfl, SqT.of hf, fun hw => ?_, fun _ => To.tup ((q.same ((s1.trans s2).trans s3)).to o3) k3 ((r.mono (s2.trans s3)).cut l h)⟩
    refine q (.ref a') F3 R3 H3 ((s1.trans s2).trans s3) o3 k3 ?_
    have e : cutD ds l h = ds := by
      unfold cutD
      rw [← r.length, hw.1, hw.2]
      simp [r.length]
    rw [e]
    exact .tup (s3 _ _ (s2 _ _ h1)) (r.mono (s2.trans s3))
/-- in a tuple of data -/
theorem op_inTD (hu : X.A.units + 65 < cLine) : OpR X (compareOp .In) (fun x y H Q => ∃ d ds, Dp X.K H x d ∧ Dp X.K H y (.tuple ds) ∧ SeqAt.shaped d = true ∧ SeqAt.shaped (.tuple ds) = true ∧ Q (.bl (ds.any fun z => PyData.eqv z d)) H) := by
  intro pins s σ H x y v u Q I rx ry h
  obtain ⟨d, ds, hd, he, sd, se, q⟩ := h
  obtain ⟨as, r1⟩ := Dp.reads I d x v hd rx
  obtain ⟨bs, r2⟩ := Dp.reads I (.tuple ds) y u he ry
  exact SeqAt.in_tuple_reads r2 r1 (by have := SeqAt.canLay_of_shaped se; simpa [PyData.canLay0] using this) (SeqAt.canLay_of_shaped sd) (room_in_shaped sd hu) ⟨.bl _, H, I, rfl, q⟩
theorem ev_inTD (u : X.A.units + 65 < cLine) (ha : Ev X Ω ρ a d) (hb : Ev X Ω ρ b (.tuple ds)) (sa : SeqAt.shaped d = true) (sb : SeqAt.shaped (.tuple ds) = true) (hm : behindInMarks .In b = false := by rfl) : Ev X Ω ρ (.Compare a [.In] [b] pos) (.bool (ds.any fun z => PyData.eqv z d)) :=
  ev_cmp (op_inTD u) (fun F L R H x y k rx ry Q q => ⟨d, ds, rx.dp k.f, ry.dp k.f, sa, sb, q.here k (.bl _)⟩) ha hb hm
theorem et_inTD (u : X.A.units + 65 < cLine) (ha : Ev X Ω ρ a d) (hb : Ev X Ω ρ b (.tuple ds)) (sa : SeqAt.shaped d = true) (sb : SeqAt.shaped (.tuple ds) = true) (hm : behindInMarks .In b = false := by rfl) : EvT X Ω ρ (.Compare a [.In] [b] pos) (ds.any fun z => PyData.eqv z d) :=
  et_cmp (op_inTD u) (fun F L R H x y k rx ry Q q => ⟨d, ds, rx.dp k.f, ry.dp k.f, sa, sb, q.here k (.bl _)⟩) ha hb hm
end
/-! laws over things -/
theorem sep_scr {K : PySem.W.Frag} {F M : Hp} {sa : Addr} {ns : List Int} (h : SqL K F sa (ns.map V.int)) : Sep F M [ScrT K sa ns] M := by
  refine ⟨fun _ => none, fun a o e => ⟨e, rfl⟩, fun i t e => ?_⟩
  cases i with
  | zero =>
    cases e
    exact h
  | succ n => simp at e
def outL : Out (List Thing) := ⟨fun _ _ => False, fun sv _ => sv = .d (.bool true), fun _ _ _ => False, fun _ _ => False, fun _ _ => False⟩
section
variable {P : Program} {w : World} {K : PySem.W.Frag} {mg : Str → Option Value} {base : Heap} {CA : Str → Addr}
theorem fn_lawT {x qual : Str} {params : Arguments} {body : List Stmt} {scope : Scope} {dvs : List V} {kws : List (Str × V)} {f : Addr} {fd : FuncData} {N ps : List Str} {k : Nat} (Fd : FunD K x qual params body scope dvs kws f fd) (S : FnScope N ps scope) (len : ps.length = 1)
    (hbody : ∀ (cdv : Value) (A : Around) (outer : List Env) (s : Shared) (H : Hp) (E : XK) (R0 : Hp) (sa : Addr) (ns : List Int), Room k (A.deeper (envOfC qual scope s.heap.objs.size f cdv)) → ns.length ≤ 63 →
      SB (cxOf (L2.CX P w) P w K mg base N qual scope f cdv A outer s H E) CA (ThW R0) (startS N.length [.raw (.ref sa)]) [ScrT K sa ns] body outL) :
    FnOk P w K mg base (L2.CX P w) (k + 1) f fd ps (lift CA (pmLaw K)) := by
  refine fn_any Fd S (fun vs F M q e h => ?_) (fun cdv A outer s H E hr vs F M q e h => ?_)
  · obtain ⟨sa, ns, rfl, _⟩ := h
    rw [len]
    rfl
  · obtain ⟨sa, ns, rfl, hS, hl, hq⟩ := h
    refine ⟨ThW M, [ScrT K sa ns], _, _, sg_start (svs := [.raw (.ref sa)]) (.cons ⟨rfl, rfl⟩ .nil), sep_scr hS, hbody cdv A outer s H E M sa ns hr hl, ?_, ?_, ?_, ?_, ?_⟩
    · exact fun _ _ _ _ o => o.elim
    · rintro sv w' v F' L' R' o s' i' r' _
      have o : sv = .d (.bool true) := o
      subst o
      cases r'
      exact hq F' R'
    · exact fun _ _ _ _ _ o => o.elim
    · exact fun _ _ o => o
    · exact fun _ _ o => o
end
section
variable {X : Cx} {CA : Str → Addr} {R0 : Hp} {ρ : Rho} {w : List Thing} {e : Expr} {es : List Expr} {pos p p2 : Pos} {O : Sv → List Thing → Prop} {Ox : Str → List Thing → Prop} {OS : Out (List Thing)} {sa ta : Addr} {ns : List Int} {n : Nat}
/-- town = [] -/
theorem s_townT (i : Nat) {x : Str} (hN : X.N.Nodup) (h : ∀ ta, OS.nx (ρ.set i (some (.raw (.ref ta)))) (w ++ [TownT ta 0])) (hi : X.N[i]? = some x := by rfl) (hx : Loc X.env.scope x := by first | exact Or.inl rfl | exact Or.inr rfl)
    (hs : swapsWith (.List [] p2) (some (.Name x p)) pos.line X.env = pure false := by rfl) (hf : X.fn x = true ∨ X.env.scope.names.lookup x = some .local := by first | exact .inl rfl | exact .inr rfl) : S1 X CA (ThW R0) ρ w (.Assign [.Name x p] (.List [] p2) pos) OS := fun F L R H σ g ii k D Wx tk m =>
  toS (ps_set hN hi hx (pe_lst pa_nil) hs hf) ⟨Nat.zero_le _, fun q hq => m.nx _ _ F L (upd R q (zeros 0)) _ _ (h q) (Same.refl F) (Sep.new (u := TownT q 0) ii (k.r.free hq) upd_same) (g.set i (sv := .raw (.ref q)) rfl rfl) (k.newR hq)⟩
/-- a def that draws -/
theorem es_townT {k c : Nat} {x : Str} {pre : List PyData → Prop} {post : List PyData → PyData → Prop} (fn : FnX X k x (lift CA (pmT X.K c pre post))) (hr : Room k X.A) {s t : Str} {ps pt : Pos} (i j : Nat)
    (h : EvSA X CA (ThW R0) ρ (ScrT X.K sa ns :: TownT ta n :: w) es (fun svs w1 => ∃ (n1 : Nat) (w' : List Thing) (ds : List PyData), w1 = ScrT X.K sa ns :: TownT ta n1 :: w' ∧ svs = ds.map Sv.d ∧ n1 + c ≤ 1000000 ∧ pre ds ∧ ∀ d n', post ds d → n1 ≤ n' → n' ≤ n1 + c → O (.d d) (ScrT X.K sa ns :: TownT ta n' :: w')) Ox)
    (hi : ρ[i]? = some (some (.raw (.ref sa))) := by rfl) (hj : ρ[j]? = some (some (.raw (.ref ta))) := by rfl) (hN : X.N[i]? = some s := by rfl) (hN' : X.N[j]? = some t := by rfl)
    (hv : Vis X.env.scope s := by first | exact Or.inl rfl | exact Or.inr (Or.inl rfl) | exact Or.inr (Or.inr rfl)) (hv' : Vis X.env.scope t := by first | exact Or.inl rfl | exact Or.inr (Or.inl rfl) | exact Or.inr (Or.inr rfl)) (hd : (s == ("__debug__" : Str)) = false := by decide) (hd' : (t == ("__debug__" : Str)) = false := by decide)
    (hcd : (s == ("__classdict__" : Str)) = false := by decide) (hcd' : (t == ("__classdict__" : Str)) = false := by decide)
    (hs : starEach (.Name s ps :: .Name t pt :: es) X.env = (false, eval (.Name s ps) X.env) :: starEach (.Name t pt :: es) X.env := by rfl) (hs' : starEach (.Name t pt :: es) X.env = (false, eval (.Name t pt) X.env) :: starEach es X.env := by rfl)
    (hg : Gl X x := by rfl) (hdb : (x == ("__debug__" : Str)) = false := by decide) (hpl : (backTo pos (starEach (.Name t pt :: es) X.env)).any (·.1) = false := by rfl) : EvS X CA (ThW R0) ρ (ScrT X.K sa ns :: TownT ta n :: w) (.Call (.Name x p) (.Name s ps :: .Name t pt :: es) [] pos) O Ox := by
  refine es_townW fn hr (esa_cons (EvV.s (Y := ThW R0) (vv i hi hN hv hd hcd) (esa_cons (EvV.s (Y := ThW R0) (vv j hj hN' hv' hd' hcd') (fun F L R H σ g ii kk Q Wx tk q qx => h F L R H σ g ii kk Q Wx tk (fun svs w1 vs F' R' H' o => q svs w1 vs F' R' H' ?_) qx)) hs')) hs) hg hdb hs hpl
  obtain ⟨n1, w', ds, rfl, rfl, h1, h2, h3⟩ := o
  exact ⟨sa, ta, ns, n1, 0, 1, ds, rfl, rfl, rfl, h1, h2, h3⟩
/-- _law_draw(script, town, e) -/
theorem es_drawT (fd : DrawF X.prog X.w X.K X.mg X.base CA) (hr : Room 3 X.A) {s t : Str} {ps pt : Pos} (i j : Nat) {m : Int} (h : Ev X ((ThW R0).om (ScrT X.K sa ns :: TownT ta n :: w)) ρ e (.int m)) (hm : 0 < m) (hn : n + 1 ≤ 1000000) (o : ∀ (r : Int) n', 0 ≤ r → r < m → n ≤ n' → n' ≤ n + 1 → O (.d (.int r)) (ScrT X.K sa ns :: TownT ta n' :: w))
    (hi : ρ[i]? = some (some (.raw (.ref sa))) := by rfl) (hj : ρ[j]? = some (some (.raw (.ref ta))) := by rfl) (hN : X.N[i]? = some s := by rfl) (hN' : X.N[j]? = some t := by rfl)
    (hv : Vis X.env.scope s := by first | exact Or.inl rfl | exact Or.inr (Or.inl rfl) | exact Or.inr (Or.inr rfl)) (hv' : Vis X.env.scope t := by first | exact Or.inl rfl | exact Or.inr (Or.inl rfl) | exact Or.inr (Or.inr rfl)) (hd : (s == ("__debug__" : Str)) = false := by decide) (hd' : (t == ("__debug__" : Str)) = false := by decide)
    (hcd : (s == ("__classdict__" : Str)) = false := by decide) (hcd' : (t == ("__classdict__" : Str)) = false := by decide)
    (hs : starEach [.Name s ps, .Name t pt, e] X.env = (false, eval (.Name s ps) X.env) :: starEach [.Name t pt, e] X.env := by rfl) (hs' : starEach [.Name t pt, e] X.env = (false, eval (.Name t pt) X.env) :: starEach [e] X.env := by rfl) (hs2 : starEach [e] X.env = [(false, eval e X.env)] := by rfl)
    (hg : Gl X "_law_draw" := by rfl) (hpl : (backTo pos (starEach [.Name t pt, e] X.env)).any (·.1) = false := by rfl) : EvS X CA (ThW R0) ρ (ScrT X.K sa ns :: TownT ta n :: w) (.Call (.Name "_law_draw" p) [.Name s ps, .Name t pt, e] [] pos) O Ox :=
  es_townT fd hr i j (esa_data (Y := ThW R0) (ea_one h hs2) ⟨n, w, [.int m], rfl, rfl, hn, ⟨m, rfl, hm⟩, fun d n' hp h1 h2 => by
    obtain ⟨m', r, e1, rfl, h3, h4⟩ := hp
    cases e1
    exact o r n' h3 h4 h1 h2⟩) hi hj hN hN' hv hv' hd hd' hcd hcd' hs hs' hg (by decide) hpl
end
end G
end

section
set_option Elab.async false
set_option linter.all false
set_option maxRecDepth 100000
set_option maxHeartbeats 4000000
/-! ### for k in d.keys() -/
namespace G
open PySem PySem.Spec PyProof.Rows L2
/-- a thing whose dict may be locked -/
structure DicL (t : Thing) (lk : Obj → List (L2.Key × V) → Thing) (q : Addr) (kss : List (L2.Key × Sv)) : Prop where
  is : ∀ F M, t.P F M → ∃ kvs, M q = some (.dK kvs) ∧ RpK F kvs kss
  lis : ∀ od kvs F M, (lk od kvs).P F M → M q = some (.frz od (.dK kvs)) ∧ RpK F kvs kss
  lock : ∀ od kvs F M, t.P F M → M q = some (.dK kvs) → (lk od kvs).P F (upd M q (.frz od (.dK kvs)))
  free : ∀ od kvs F M, (lk od kvs).P F M → t.P F (upd M q (.dK kvs))
def LckS (q : Addr) (kss : List (L2.Key × Sv)) (od : Obj) (kvs : List (L2.Key × V)) : Thing := ⟨fun F M => M q = some (.frz od (.dK kvs)) ∧ RpK F kvs kss, fun sF sM h => ⟨sM _ _ h.1, h.2.mono sF⟩⟩
theorem dicL_S (q : Addr) (kss : List (L2.Key × Sv)) : DicL (DicS kdK q kss) (LckS q kss) q kss :=
  ⟨fun F M h => h, fun od kvs F M h => h, fun od kvs F M h e => ⟨upd_same, by
    obtain ⟨kvs', h1, h2⟩ := h
    have h1 : M q = some (.dK kvs') := h1
    rw [h1] at e
    cases e
    exact h2⟩, fun od kvs F M h => ⟨kvs, upd_same, h.2⟩⟩
theorem dicR_L {t : Thing} {lk : Obj → List (L2.Key × V) → Thing} {q : Addr} {kss : List (L2.Key × Sv)} {w : List Thing} {od : Obj} {kvs : List (L2.Key × V)} (K : DicL t lk q kss) (i : Nat) (e : w[i]? = some (lk od kvs)) : DicR kdK w q kss := fun F R0 R H s sf sr => by
  obtain ⟨M, h1, h2⟩ := s.get e
  obtain ⟨h3, h4⟩ := K.lis od kvs F M h1
  exact ⟨kvs, .inr ⟨od, sr _ _ (h2 _ _ h3)⟩, h4⟩
section
variable {X : Cx} {CA : Str → Addr} {R0 : Hp} {ρ : Rho} {w : List Thing} {a tg : Expr} {s1 : List Stmt} {pos p apos cpos : Pos} {OS : Out (List Thing)}
theorem s_forD {vs : List Nat} {kss : List (L2.Key × Sv)} {t : Thing} {lk : Obj → List (L2.Key × V) → Thing} {d : Addr} (i : Nat) (hp : PassesOwn (model X.prog X.w) X.A X.env X.xe) (hc : X.calm = true) (hw : w[i]? = some t) (K : DicL t lk d kss)
    (ha : ∀ od kvs, EvV X ((ThW R0).om (w.set i (lk od kvs))) ρ a (.raw (.ref d)))
    (Pv : Obj → List (L2.Key × V) → Nat → Rho → List Thing → Prop) (h0 : ∀ od kvs, Pv od kvs 0 ρ (w.set i (lk od kvs))) (hl : ∀ od kvs n ρ' w', Pv od kvs n ρ' w' → w'[i]? = some (lk od kvs))
    (hs : ∀ od kvs (n : Nat) k sv ρ' w', kss[n]? = some (k, sv) → Pv od kvs n ρ' w' → ∃ ρ'', TgD X vs tg (keyD k) ρ' ρ'' ∧ SB X CA (ThW R0) ρ'' w' s1
      { nx := Pv od kvs (n + 1), ct := Pv od kvs (n + 1), bk := fun _ _ => False, rt := fun sv w2 => w2[i]? = some (lk od kvs) ∧ OS.rt sv (w2.set i t), ex := fun _ _ _ => False })
    (hd : ∀ od kvs ρ' w', Pv od kvs kss.length ρ' w' → OS.nx ρ' (w'.set i t))
    (hf : ∀ x, foldedSetIterable (.Call (.Attribute a "keys" apos) [] [] cpos) X.env x = pure x := by intro _; rfl) (hbase : attributeBase a "keys" X.env (eval a X.env) = eval a X.env := by rfl) (hline : (apos.endLine == cpos.line) = true := by rfl) :
    S1 X CA (ThW R0) ρ w (.For tg (.Call (.Attribute a "keys" apos) [] [] cpos) s1 [] pos) OS := fun F L R H σ g ii k D Wx tk m => by
  have ii : Sep F R0 w R := ii
  obtain ⟨M, hP, hMR, hU⟩ := Sep.upd ii hw
  obtain ⟨kvs, hMd, hrp⟩ := K.is F M hP
  have hdR := hMR _ _ hMd
  have hlen := hrp.len
  refine toS (ps_lock (ps_for hp hc (pi_keysM (pe_w a) hbase hline) (pg_w tg) (pb_w s1) hf)) ⟨d, .dK kvs, k.r _ _ hdR, trivial, fun od => ?_⟩
  have i1 : Sep F R0 (w.set i (lk od kvs)) (upd R d (.frz od (.dK kvs))) := hU F d _ (lk od kvs) (Same.refl _) (.inl (by rw [hMd]; simp)) (K.lock od kvs F M hP hMd)
  have k1 : Ok F L (upd R d (.frz od (.dK kvs))) (upd H d (.frz od (.dK kvs))) := k.setR hdR
  have opens : ∀ {F2 : Hp} {w2 : List Thing} {L2' R2 H2 : Hp}, w2[i]? = some (lk od kvs) → Sep F2 R0 w2 R2 → Ok F2 L2' R2 H2 → H2 d = some (.frz od (.dK kvs)) ∧ Sep F2 R0 (w2.set i t) (upd R2 d (.dK kvs)) ∧ Ok F2 L2' (upd R2 d (.dK kvs)) (upd H2 d (.dK kvs)) := fun hi hS hk => by
    obtain ⟨M2, hP2, hMR2, hU2⟩ := Sep.upd hS hi
    obtain ⟨hdM, _⟩ := K.lis od kvs _ M2 hP2
    exact ⟨hk.r _ _ (hMR2 _ _ hdM), hU2 _ d _ t (Same.refl _) (.inl (by rw [hdM]; simp)) (K.free od kvs _ M2 hP2), hk.setR (hMR2 _ _ hdM)⟩
  refine ha od kvs F L _ _ σ g i1 k1 _ (fun v F1 R1 H1 s1' i1' k1' r1 => ?_)
  cases r1
  have hiw : (w.set i (lk od kvs))[i]? = some (lk od kvs) := hl od kvs 0 ρ _ (h0 od kvs)
  have hdH := (opens hiw i1' k1').1
  refine ⟨d, od, kvs, rfl, hdH, ?_⟩
  refine ⟨fun n mm σ' H' => mm = kvs.length - n ∧ n ≤ kvs.length ∧ ∃ F' L' R' ρ' w', Same F1 F' ∧ Pv od kvs n ρ' w' ∧ Sg F' L' σ' ρ' ∧ Sep F' R0 w' R' ∧ Ok F' L' R' H', ⟨kvs.length, by simp, Nat.zero_le _, F1, L, R1, ρ, _, Same.refl _, h0 od kvs, g.mono s1', i1', k1'⟩, ?_⟩
  rintro n mm σ' H' ⟨rfl, hile, F', L', R', ρ', w', sm, pv, g', i', k'⟩
  have hfr := (opens (hl od kvs n ρ' w' pv) i' k').1
  by_cases hlt : n < kvs.length
  · refine .inr ⟨⟨hfr, hlt⟩, fun σ2 H2 => ∃ F' L' R' ρ' w', Same F1 F' ∧ Pv od kvs (n + 1) ρ' w' ∧ Sg F' L' σ2 ρ' ∧ Sep F' R0 w' R' ∧ Ok F' L' R' H2, fun σ2 H2 h => ⟨kvs.length - (n + 1), by omega, rfl, hlt, h⟩, fun x H2 hy => ?_⟩
    obtain ⟨e2, kk, vv, hkv, ex⟩ := hy
    subst e2 ex
    have hkn : (kss.map (·.1))[n]? = some kk := by
      rw [← hrp.keys, List.getElem?_map, hkv]
      rfl
    rw [List.getElem?_map] at hkn
    cases hks : kss[n]? with
    | none =>
      rw [hks] at hkn
      cases hkn
    | some q =>
      obtain ⟨kq, sq⟩ := q
      rw [hks] at hkn
      have : kq = kk := by simpa using hkn
      subst this
      obtain ⟨ρ'', ht, hb⟩ := hs od kvs n kq sq ρ' w' hks pv
      refine ht F' L' R' H2 σ' (kV kq) g' k' (by cases kq <;> constructor) _ fun σ2 g2 _ => ?_
      refine hb F' L' R' H2 σ2 g2 i' k' _ Wx tk ⟨?_, ?_, ?_, ?_, ?_⟩
      · exact fun ρ3 w3 F3 L3 R3 H3 σ3 o3 s3 i3 g3 k3 => ⟨F3, L3, R3, ρ3, w3, sm.trans s3, o3, g3, i3, k3⟩
      · intro sv w3 v F3 L3 R3 H3 o3 s3 i3 r3 n3 k3
        obtain ⟨a1, a2, a3⟩ := opens o3.1 i3 k3
        exact ⟨a1, m.rt sv _ v F3 L3 _ _ o3.2 ((s1'.trans sm).trans s3) a2 r3 n3 a3⟩
      · exact fun _ _ _ _ _ _ _ _ o3 => o3.elim
      · exact fun _ _ _ _ _ _ _ o3 => o3.elim
      · exact fun ρ3 w3 F3 L3 R3 H3 σ3 o3 s3 i3 g3 k3 => ⟨F3, L3, R3, ρ3, w3, sm.trans s3, o3, g3, i3, k3⟩
  · have ei : n = kvs.length := by omega
    subst ei
    obtain ⟨a1, a2, a3⟩ := opens (hl od kvs _ ρ' w' pv) i' k'
    rw [hlen] at pv
    exact .inl ⟨⟨hfr, Nat.le_refl _⟩, a1, m.nx ρ' _ F' L' _ _ σ' (hd od kvs ρ' w' pv) (s1'.trans sm) a2 g' a3⟩
end
end G
end

section
set_option Elab.async false
set_option linter.all false
set_option maxRecDepth 100000
set_option maxHeartbeats 4000000
/-! ### try: .. except BagError as e: held = e; what a law tells of it -/
namespace Da
open PySem PySem.PyData
mutual
theorem eqv_self : ∀ d : PyData, d.canLay0 = true → PyData.eqv d d = true
  | .none, _ => by simp [PyData.eqv]
  | .bool _, _ => by simp [PyData.eqv]
  | .int _, _ => by simp [PyData.eqv]
  | .str _, _ => by simp [PyData.eqv]
  | .list xs, h => by
    rw [PyData.eqv]
    exact eqv_selfs xs (by rw [PyData.canLay0] at h; exact h)
  | .tuple xs, h => by
    rw [PyData.eqv]
    exact eqv_selfs xs (by rw [PyData.canLay0] at h; exact h)
  | .dict _, h => by
    rw [PyData.canLay0] at h
    cases h
theorem eqv_selfs : ∀ xs : List PyData, PyData.canLayAll0 xs = true → PyData.eqvAll xs xs = true
  | [], _ => by rw [PyData.eqvAll]
  | x :: xs, h => by
    rw [PyData.canLayAll0, Bool.and_eq_true] at h
    rw [PyData.eqvAll, eqv_self x h.1, eqv_selfs xs h.2]
    rfl
end
theorem Fit.self {n : Nat} {d : PyData} (h : Fit n d) : PyData.eqv d d = true := eqv_self d h.lay
end Da
namespace G
open PySem PySem.Spec PyProof.Rows L2
theorem getS {α : Type} {l : List α} {i : Nat} (x : α) (h : i < l.length) : (l.set i x)[i]? = some x := List.getElem?_set_self h
section
variable {X : Cx} {CA : Str → Addr} {R0 : Hp} {ρ : Rho} {w : List Thing} {OS : Out (List Thing)} {body : List Stmt} {p1 p2 p3 p4 p5 p6 p7 p8 p9 p10 p11 p12 p13 p14 p15 p16 p17 p18 p19 p20 p21 : Pos} {n1 n2 n3 : Nat} {h f n : Str} {k : Nat}
theorem sb_told (tx : TxtX X.K X.mg CA) (fr : FnX X k "_law_refusal" (lift CA (pmR CA))) (hr : Room k X.A) (ih jf ie : Nat) (hN : X.N.Nodup)
    (hb : ∀ (pn : List (Addr × Obj)) (xe : Value → Shared → Prop), PassesOwn (model X.prog X.w) X.A X.env xe → SB (X.tr pn xe) CA (ThW R0) ((ρ.set ih (some (.d .none))).set jf (some (.d .none))) w body
      { nx := fun ρ' w' => ρ'[ih]? = some (some (.d .none)) ∧ ∃ sv, ρ'[jf]? = some (some sv) ∧ isOwn sv = false ∧ OS.rt sv w', rt := OS.rt, ex := fun c ρ' w' => ρ'.length = X.N.length ∧ ∃ (j : Nat) (z : Str), errs[j]? = some c ∧ errW[j]? = some z ∧ OS.rt (.d (refusedD z)) w', bk := fun _ _ => False, ct := fun _ _ => False })
    (hih : X.N[ih]? = some h := by rfl) (hjf : X.N[jf]? = some f := by rfl) (hie : X.N[ie]? = some n := by rfl)
    (l1 : X.env.scope.names.lookup h = some .local := by rfl) (l2 : X.env.scope.names.lookup f = some .local := by rfl) (l3 : X.env.kindOf n = some .local := by rfl) (l4 : X.env.scope.names.lookup n = some .local := by rfl)
    (d1 : (h == ("__debug__" : Str)) = false := by decide) (d2 : (h == ("__classdict__" : Str)) = false := by decide) (d3 : (f == ("__debug__" : Str)) = false := by decide) (d4 : (f == ("__classdict__" : Str)) = false := by decide) (d5 : (n == ("__debug__" : Str)) = false := by decide) (d6 : (n == ("__classdict__" : Str)) = false := by decide)
    (hs : X.stack = X.env :: X.outer := by rfl) (hf : X.env.frame = some X.env.locals := by rfl) (hex : X.ex = [] := by rfl) (hg : Gl X "BagError" := by rfl) (hg2 : Gl X "_law_refusal" := by rfl)
    (ne1 : ih ≠ jf := by decide) (ne2 : ih ≠ ie := by decide) (ne3 : jf ≠ ie := by decide) (hl : ρ.length = X.N.length := by rfl) (he : starEach [.Name h p18] X.env = (false, eval (.Name h p18) X.env) :: starEach [] X.env := by rfl) (hpl : (backTo p19 (starEach [] X.env)).any (·.1) = false := by rfl)
    (l5 : ∀ (a : Addr) (pn2 : List (Addr × Obj)), (X.suite a pn2).env.scope.names.lookup h = some .local := by intro _ _; rfl) (l6 : ∀ (a : Addr) (pn2 : List (Addr × Obj)), (X.suite a pn2).env.scope.names.lookup n = some .local := by intro _ _; rfl)
    (sw1 : swapsWith (.Constant .none n1 p1) (some (.Name h p2)) p3.line X.env = pure false := by rfl) (sw2 : swapsWith (.Constant .none n2 p4) (some (.Name f p5)) p6.line X.env = pure false := by rfl)
    (sw3 : ∀ (a : Addr) (pn2 : List (Addr × Obj)), swapsWith (.Name n p7) (some (.Name h p8)) p9.line (X.suite a pn2).env = pure false := by intro _ _; rfl) :
    SB X CA (ThW R0) ρ w [.Assign [.Name h p2] (.Constant .none n1 p1) p3, .Assign [.Name f p5] (.Constant .none n2 p4) p6, .Try body [.ExceptHandler (some (.Name "BagError" p10)) (some n) [.Assign [.Name h p8] (.Name n p7) p9] p11] [] [] p12,
      .Return (some (.IfExp (.Compare (.Name h p13) [.Is] [.Constant .none n3 p14] p15) (.Name f p16) (.Call (.Name "_law_refusal" p17) [.Name h p18] [] p19) p20)) p21] OS := by
  obtain ⟨B, hB, hX⟩ := tx.bag
  refine sb_cons (s_asg ih hN (Ev.s ev_non ?_) hih (.inl l1) sw1 (.inr l1))
  refine sb_cons (s_asg jf hN (Ev.s ev_non ?_) hjf (.inl l2) sw2 (.inr l2))
  refine sb_cons (s_try ie hN hB (fun pn xe hp => (hb pn xe hp).imp fun F D Wx m => ⟨?_, ?_, ?_, ?_, ?_⟩) hie l3 hg (by decide) hs hf hex)
  · rintro ρ' w' F' L' R' H' σ' ⟨h1, sv, h2, hn, h3⟩ s' i' g' k'
    refine m.nx ρ' w' F' L' R' H' σ' ?_ s' i' g' k'
    exact sb_one (s_ret (es_if (EvT.s (et_isN (ev_var ih h1 hih (.inl l1) d1 d2)) ⟨fun _ => EvV.s (Y := ThW R0) (vv jf h2 hjf (.inl l2) d3 d4) h3 hn, fun h => by cases h⟩)))
  · exact m.rt
  · rintro c ρ' w' F' L' R' H' σ' ⟨hlen, j, z, e1, e2, h3⟩ s' i' g' k'
    refine m.ex c ρ' w' F' L' R' H' σ' ⟨hX c (List.mem_of_getElem? e1), fun a pn2 => ?_⟩ s' i' g' k'
    have bi : ih < ρ'.length := by
      rw [hlen]
      exact (List.getElem?_eq_some_iff.mp hih).1
    have be : ie < ρ'.length := by
      rw [hlen]
      exact (List.getElem?_eq_some_iff.mp hie).1
    have g1 : (ρ'.set ie (some (.exc (CA c))))[ie]? = some (some (.exc (CA c))) := getS _ be
    refine sb_one (s_asg ih hN (es_exc ie (C := CA c) ?_ g1 hie (.inl (l6 a pn2)) d5 d6) hih (.inl (l5 a pn2)) (sw3 a pn2) (.inr (l5 a pn2)))
    have g2 : (((ρ'.set ie (some (.exc (CA c)))).set ih (some (.exc (CA c)))).set ie none)[ih]? = some (some (.exc (CA c))) := by
      rw [List.getElem?_set_ne (Ne.symm ne2)]
      exact getS _ (by rw [List.length_set]; exact bi)
    exact sb_one (s_ret (es_if (EvT.s (et_excN ih (C := CA c) g2 hih (.inl l1) d1 d2) ⟨fun h => (by cases h), fun _ => es_refusal fr hr (es_exc ih (C := CA c) ⟨_, .inr ⟨j, c, z, e1, e2, rfl, rfl⟩, h3⟩ g2 hih (.inl l1) d1 d2) hg2 he hpl⟩)))
  · exact fun _ _ _ _ _ _ _ o => o.elim
  · exact fun _ _ _ _ _ _ _ o => o.elim
end
section
variable {X : Cx} {Ω : Om} {ρ : Rho} {a b : Expr} {pos : Pos} {d da db : PyData} {n : Nat} {k : Nat}
/-- the same data on both sides -/
theorem et_neq (hr : Room k X.A) (ha : Ev X Ω ρ a da) (hb : Ev X Ω ρ b db) (e : da = db) (hf : Da.Fit n da) (hn : n ≤ 64 := by decide) : EvT X Ω ρ (.Compare a [.NotEq] [b] pos) false := by
  subst e
  exact EvT.is (et_ne (u64 hr) ha hb (hf.shaped hn) (hf.shaped hn)) (by rw [hf.self]; rfl)
theorem ev_eqq (hr : Room k X.A) (ha : Ev X Ω ρ a da) (hb : Ev X Ω ρ b db) (e : da = db) (hf : Da.Fit n da) (hn : n ≤ 64 := by decide) : Ev X Ω ρ (.Compare a [.Eq] [b] pos) (.bool true) := by
  subst e
  exact Ev.is (ev_eq (u64 hr) ha hb (hf.shaped hn) (hf.shaped hn)) (by rw [hf.self])
variable {CA : Str → Addr} {Y : Wd} {w : Y.W} {OT : Bool → Y.W → Prop} {O : Sv → Y.W → Prop} {Ox : Str → Y.W → Prop}
theorem est_neq (hr : Room k X.A) (h : EvS X CA Y ρ w a (fun x w1 => EvS X CA Y ρ w1 b (fun y w2 => ∃ d n, x = .d d ∧ y = .d d ∧ Da.Fit n d ∧ n ≤ 64 ∧ OT false w2) Ox) Ox) : EvST X CA Y ρ w (.Compare a [.NotEq] [b] pos) OT Ox :=
  est_cmp (op_neD (u64 hr)) (nomark _) (h.imp (fun x w1 h1 => h1.imp (fun y w2 h2 => by
    obtain ⟨d, n, e1, e2, hf, hn, o⟩ := h2
    refine ⟨d, d, false, e1, e2, ?_, o⟩
    have z := od_ne (K := X.K) (hf.shaped hn) (hf.shaped hn)
    rw [hf.self] at z
    exact z) (fun _ _ z => z)) (fun _ _ z => z))
theorem es_eqq (hr : Room k X.A) (h : EvS X CA Y ρ w a (fun x w1 => EvS X CA Y ρ w1 b (fun y w2 => ∃ d n, x = .d d ∧ y = .d d ∧ Da.Fit n d ∧ n ≤ 64 ∧ O (.d (.bool true)) w2) Ox) Ox) : EvS X CA Y ρ w (.Compare a [.Eq] [b] pos) O Ox :=
  es_cmp (op_eqD (u64 hr)) (nomark _) (h.imp (fun x w1 h1 => h1.imp (fun y w2 h2 => by
    obtain ⟨d, n, e1, e2, hf, hn, o⟩ := h2
    refine ⟨d, d, .bool true, e1, e2, ?_, o⟩
    have z := od_eq (K := X.K) (hf.shaped hn) (hf.shaped hn)
    rw [hf.self] at z
    exact z) (fun _ _ z => z)) (fun _ _ z => z))
end
end G
end

section
set_option Elab.async false
set_option linter.all false
set_option maxRecDepth 100000
set_option maxHeartbeats 4000000
namespace G
open PySem PySem.Spec PyProof.Rows L2
/-- for tg in iter: body, the iterable with a state -/
def EvSI (X : Cx) (CA : Str → Addr) (Y : Wd) (ρ : Rho) (w : Y.W) (tg iter : Expr) (O : List PyData → Y.W → Prop) (Ox : Str → Y.W → Prop) : Prop := ∀ F L R H σ, Sg F L σ ρ → Y.I w F R → Ok F L R H → ∀ (Q : It → Hp → Prop) (Wx : WX), Takes X Wx →
  (∀ ds w' J F' R' H', O ds w' → Same F F' → Y.I w' F' R' → Ok F' L R' H' → GoodIt J F' F' ds → Q J H') → ToX CA Y F L σ Ox Wx → wI X tg iter σ H Q
section
variable {X : Cx} {CA : Str → Addr} {Y : Wd} {ρ : Rho} {w : Y.W} {O : Out Y.W} {s1 : List Stmt} {tg iter a : Expr} {pos p : Pos} {OI : List PyData → Y.W → Prop} {Ox : Str → Y.W → Prop}
theorem esi_rangeN (hm : X.mg "range" = none) (h : EvS X CA Y ρ w a (fun sv w1 => ∃ n : Nat, sv = .d (.int (n : Int)) ∧ n ≤ 1000000 ∧ OI ((List.range n).map fun i : Nat => PyData.int (i : Int)) w1) Ox) (hg : Gl X "range" := by rfl) (hs : starEach [a] X.env = [(false, eval a X.env)] := by rfl) :
    EvSI X CA Y ρ w tg (.Call (.Name "range" p) [a] [] pos) OI Ox := fun F L R H σ g i k Q Wx tk q qx =>
  toI (pi_range1 hg hm (pa_cons (pe_w a) pa_nil hs) hs) (h F L R H σ g i k _ Wx tk (fun sv w1 v F1 R1 H1 o1 s1 i1 r1 n1 k1 => by
    obtain ⟨n, e1, hn, o⟩ := o1
    subst e1
    cases r1
    refine ⟨(n : Int), rfl, by omega, by omega, q _ w1 _ F1 R1 H1 o s1 i1 k1 ?_⟩
    have z := good_range (lo := 0) (n := n) (B := F1) (F := F1)
    rw [upFrom_zero, List.map_map] at z
    rw [Int.toNat_natCast]
    exact z) qx)
theorem s_forS {α : Type} (enc : α → PyData) {vs : List Nat} (hp : PassesOwn (model X.prog X.w) X.A X.env X.xe) (hc : X.calm = true)
    (hi : EvSI X CA Y ρ w tg iter (fun ds w1 => ∃ xs : List α, ds = xs.map enc ∧ ∃ Pv : Nat → Rho → Y.W → Prop, Pv 0 ρ w1 ∧
      (∀ (i : Nat) (x : α) ρ' w', xs[i]? = some x → Pv i ρ' w' → ∃ ρ'', TgD X vs tg (enc x) ρ' ρ'' ∧ SB X CA Y ρ'' w' s1 { nx := Pv (i + 1), ct := Pv (i + 1), bk := O.nx, rt := O.rt, ex := O.ex }) ∧ ∀ ρ' w', Pv xs.length ρ' w' → O.nx ρ' w') (fun c w' => O.ex c ρ w'))
    (hf : ∀ x, foldedSetIterable iter X.env x = pure x := by intro _; rfl) : S1 X CA Y ρ w (.For tg iter s1 [] pos) O := fun F L R H σ g ii k D Wx tk m => by
  refine toS (ps_for hp hc (pi_w tg iter) (pg_w tg) (pb_w s1) hf) (hi F L R H σ g ii k _ Wx tk (fun ds w1 J F1 R1 H1 o1 s1' i1' k1 gd => ?_) (fun c w' F' R' H' o s' i' k' => m.ex c ρ w' F' L R' H' σ o s' i' (g.mono s') k'))
  obtain ⟨xs, e0, Pv, h0, hs, hd⟩ := o1
  subst e0
  refine ⟨fun i mm σ' H' => mm = xs.length - i ∧ i ≤ xs.length ∧ ∃ F' L' R' ρ' w', Same F1 F' ∧ Pv i ρ' w' ∧ Sg F' L' σ' ρ' ∧ Y.I w' F' R' ∧ Ok F' L' R' H', ⟨xs.length, by simp, Nat.zero_le _, F1, L, R1, ρ, w1, Same.refl _, h0, g.mono s1', i1', k1⟩, ?_⟩
  rintro i mm σ' H' ⟨rfl, hile, F', L', R', ρ', w', sm, pv, g', i', k'⟩
  have sB : Same F1 H' := sm.trans k'.f
  by_cases hlt : i < xs.length
  · have hx : xs[i]? = some xs[i] := List.getElem?_eq_getElem hlt
    have hgd := gd.1 H' sB i (enc xs[i]) (by rw [List.getElem?_map, hx]; rfl)
    obtain ⟨ρ'', ht, hb⟩ := hs i xs[i] ρ' w' hx pv
    refine .inr ⟨hgd.1, fun σ2 H2 => ∃ F' L' R' ρ' w', Same F1 F' ∧ Pv (i + 1) ρ' w' ∧ Sg F' L' σ2 ρ' ∧ Y.I w' F' R' ∧ Ok F' L' R' H2, fun σ2 H2 h => ⟨xs.length - (i + 1), by omega, rfl, hlt, h⟩, fun x H2 hy => ?_⟩
    obtain ⟨e2, rx⟩ := hgd.2 x H2 hy
    subst e2
    refine ht F' L' R' H2 σ' x g' k' (rx.mono sm) _ fun σ2 g2 _ => ?_
    refine hb F' L' R' H2 σ2 g2 i' k' _ Wx tk ⟨?_, ?_, ?_, ?_, ?_⟩
    · exact fun ρ3 w3 F3 L3 R3 H3 σ3 o3 s3 i3 g3 k3 => ⟨F3, L3, R3, ρ3, w3, sm.trans s3, o3, g3, i3, k3⟩
    · exact fun sv w3 v F3 L3 R3 H3 o3 s3 => m.rt sv w3 v F3 L3 R3 H3 o3 ((s1'.trans sm).trans s3)
    · exact fun c ρ3 w3 F3 L3 R3 H3 σ3 o3 s3 => m.ex c ρ3 w3 F3 L3 R3 H3 σ3 o3 ((s1'.trans sm).trans s3)
    · exact fun ρ3 w3 F3 L3 R3 H3 σ3 o3 s3 => m.nx ρ3 w3 F3 L3 R3 H3 σ3 o3 ((s1'.trans sm).trans s3)
    · exact fun ρ3 w3 F3 L3 R3 H3 σ3 o3 s3 i3 g3 k3 => ⟨F3, L3, R3, ρ3, w3, sm.trans s3, o3, g3, i3, k3⟩
  · have ei : i = xs.length := by omega
    subst ei
    refine .inl ⟨?_, m.nx ρ' w' F' L' R' H' σ' (hd ρ' w' pv) (s1'.trans sm) i' g' k'⟩
    have := gd.2 H' sB
    rw [List.length_map] at this
    exact this
end
section
variable {X : Cx} {CA : Str → Addr} {R0 : Hp} {ρ : Rho} {w : List Thing} {e : Expr} {pos p : Pos} {O : Sv → List Thing → Prop} {Ox : Str → List Thing → Prop} {sa ta : Addr} {ns : List Int} {n : Nat}
end
section
variable {X : Cx} {CA : Str → Addr} {Y : Wd} {ρ : Rho} {w : Y.W} {a b : Expr} {pos : Pos} {O : Sv → Y.W → Prop} {Ox : Str → Y.W → Prop}
/-- a and b, as a value -/
theorem es_andS (h : EvS X CA Y ρ w a (fun sv w1 => ∃ v, sv = .d (.bool v) ∧ (v = true → EvS X CA Y ρ w1 b O Ox) ∧ (v = false → O (.d (.bool false)) w1)) Ox) : EvS X CA Y ρ w (.BoolOp .And [a, b] pos) O Ox := fun F L R H σ g i k Q Wx tk q qx =>
  toE (pe_and (pe_w a) (pe_one (pe_w b))) (h F L R H σ g i k _ Wx tk (fun sv w1 u F1 R1 H1 o1 s1 i1 r1 n1 k1 => by
    obtain ⟨v, e1, h1, h2⟩ := o1
    subst e1
    cases r1
    refine ⟨v, rfl, ?_⟩
    cases v with
    | true =>
      rw [if_pos rfl]
      exact h1 rfl F1 L R1 H1 σ (g.mono s1) i1 k1 Q Wx tk (q.same s1) (qx.same s1)
    | false =>
      rw [if_neg Bool.false_ne_true]
      exact q (.d (.bool false)) w1 _ F1 R1 H1 (h2 rfl) s1 i1 (.bl _) rfl k1) qx)
end
end G
end

section
set_option Elab.async false
set_option linter.all false
set_option maxRecDepth 100000
set_option maxHeartbeats 4000000
/-! ### comprehensions with a state; d.copy() -/
namespace G
open PySem PySem.Spec PyProof.Rows L2
def EvSTs (X : Cx) (Y : Wd) (ρ : Rho) (w : Y.W) (ifs : List Expr) (O : Bool → Y.W → Prop) : Prop := ∀ F L R H σ, Sg F L σ ρ → Y.I w F R → Ok F L R H → ∀ Q : Bool → Hp → Prop, (∀ b w' F' R' H', O b w' → Same F F' → Y.I w' F' R' → Ok F' L R' H' → Q b H') → wTs X ifs σ H Q
section
variable {X : Cx} {CA : Str → Addr} {Y : Wd} {ρ : Rho} {w : Y.W} {elt tg iter : Expr} {ifs : List Expr} {scope : Scope} {own : List (Str × Nat)} {pos : Pos} {O : Sv → Y.W → Prop} {Ox : Str → Y.W → Prop} {OB : Bool → Y.W → Prop}
theorem ests_nil (o : OB true w) : EvSTs X Y ρ w [] OB := fun F L R H σ g i k Q q => ⟨fun pins s I => pts_nil.run pins s σ H Q I (q true w F R H o (Same.refl F) i k)⟩
theorem ests_one {c : Expr} (h : EvST X CA Y ρ w c OB (fun _ _ => False)) : EvSTs X Y ρ w [c] OB := fun F L R H σ g i k Q q => ⟨fun pins s I => (pts_one (pt_w c)).run pins s σ H Q I (h F L R H σ g i k Q (fun _ _ _ _ => False) takes0 (fun b w' F' R' H' o s' i' k' => q b w' F' R' H' o s' i' k') (fun _ _ _ _ _ o => o.elim))⟩
/-- [elt for tg in iter if ..], all with a state -/
def LcS (X : Cx) (CA : Str → Addr) (Y : Wd) (ρ : Rho) (w : Y.W) (tg iter : Expr) (ifs : List Expr) (elt : Expr) (scope : Scope) (own : List (Str × Nat)) (O : Sv → Y.W → Prop) (Ox : Str → Y.W → Prop) : Prop := ∀ F L R H σ, Sg F L σ ρ → Y.I w F R → Ok F L R H → ∀ (Q : VK) (Wx : WX), Takes X Wx → ToS Y F L O Q → ToX CA Y F L σ Ox Wx →
  tLc (wI X tg iter) (fun v σ H Q => ∀ s H1 C cl fp, wG (Bk X scope s H1 C cl fp) tg v σ H Q) (fun σ H Q => ∀ s H1 C cl fp, wTs (Bk X scope s H1 C cl fp) ifs σ H Q) (fun σ H Q => ∀ s H1 C cl fp, wE (Bk X scope s H1 C cl fp) elt σ H Q) (own.map (·.2)) σ H Q
theorem lcS {α : Type} (enc : α → PyData)
    (hi : EvSI X CA Y ρ w tg iter (fun ds w1 => ∃ xs : List α, ds = xs.map enc ∧ xs.length < sizeLine ∧ ∃ (rt : α → Rho) (Pv : Nat → List PyData → Y.W → Prop), Pv 0 [] w1 ∧
      (∀ (i : Nat) (x : α) acc w', xs[i]? = some x → Pv i acc w' → (∀ s H C cl fp, TgD (Bk X scope s H C cl fp) (own.map (·.2)) tg (enc x) (wipeR ρ (own.map (·.2))) (rt x)) ∧
        ∀ s H C cl fp, EvSTs (Bk X scope s H C cl fp) Y (rt x) w' ifs (fun b w2 => (b = true → ∀ s H C cl fp, EvS (Bk X scope s H C cl fp) CA Y (rt x) w2 elt (fun sv w3 => ∃ d, sv = .d d ∧ Pv (i + 1) (acc ++ [d]) w3) (fun _ _ => False)) ∧ (b = false → Pv (i + 1) acc w2))) ∧
      ∀ acc w', Pv xs.length acc w' → O (.d (.list acc)) w') Ox) : LcS X CA Y ρ w tg iter ifs elt scope own O Ox := fun F L R H σ g ii k Q Wx tk q qx => by
  refine hi F L R H σ g ii k _ Wx tk (fun ds w1 J F1 R1 H1 o1 s1 i1 k1 gd => ?_) qx
  obtain ⟨xs, e0, hz, rt, Pv, h0, hst, hd⟩ := o1
  subst e0
  intro D hD
  refine ⟨fun i m H' => m = xs.length - i ∧ i ≤ xs.length ∧ ∃ F' R' vs acc w', Same F1 F' ∧ F' D = none ∧ RpA F' vs acc ∧ acc.length ≤ i ∧ Pv i acc w' ∧ Y.I w' F' R' ∧ Ok F' (upd L D (.lst vs)) R' H', ⟨xs.length, by simp, Nat.zero_le _, F1, R1, [], [], w1, Same.refl _, k1.f.free hD, .nil, Nat.le_refl _, h0, i1, k1.newL hD⟩, ?_⟩
  rintro i m H' ⟨rfl, hile, F', R', vs, acc, w', s', hF', rvs, hal, pv, o', k'⟩
  have sL : ∀ o : HO, Same L (upd L D o) := fun o => same_new (k1.l.free hD)
  have sB : Same F1 H' := s'.trans k'.f
  by_cases hlt : i < xs.length
  · have hx : xs[i]? = some xs[i] := List.getElem?_eq_getElem hlt
    have hgd := gd.1 H' sB i (enc xs[i]) (by rw [List.getElem?_map, hx]; rfl)
    obtain ⟨htg, hts⟩ := hst i xs[i] acc w' hx pv
    refine .inr ⟨hgd.1, fun H2 => ∃ F' R' vs acc w', Same F1 F' ∧ F' D = none ∧ RpA F' vs acc ∧ acc.length ≤ i + 1 ∧ Pv (i + 1) acc w' ∧ Y.I w' F' R' ∧ Ok F' (upd L D (.lst vs)) R' H2, fun H2 h => ⟨xs.length - (i + 1), by omega, rfl, hlt, h⟩, ?_⟩
    intro x H2 hy
    obtain ⟨e2, rx⟩ := hgd.2 x H2 hy
    subst e2
    intro s5 H5 C5 cl5 fp5
    have gL : Sg F' (upd L D (.lst vs)) (wipe σ (own.map (·.2))) (wipeR ρ (own.map (·.2))) := ((g.mono (s1.trans s')).wipe (own.map (·.2))).wider (sL _)
    refine htg s5 H5 C5 cl5 fp5 F' _ R' H2 _ x gL k' (rx.mono s') _ fun σ2 g2 w2 => ⟨by rw [w2]; exact wipe_twice _ _, ?_⟩
    intro s7 H7 C7 cl7 fp7
    refine hts s7 H7 C7 cl7 fp7 F' _ R' H2 σ2 g2 o' k' _ fun b w3 F2 R2 H3 ob s2 o2 k2 => ?_
    cases b with
    | true =>
      rw [if_pos rfl]
      intro s6 H6 C6 cl6 fp6
      refine ob.1 rfl s6 H6 C6 cl6 fp6 F2 _ R2 H3 σ2 (g2.mono s2) o2 k2 _ (fun _ _ _ _ => False) takes0 (fun sv w4 y F3 R3 H4 o4 s3 o3 r3 n3 k3 => ?_) (fun _ _ _ _ _ o => o.elim)
      obtain ⟨d, e4, pv4⟩ := o4
      subst e4
      refine ⟨vs, k3.l D _ upd_same, ?_, F3, R3, vs ++ [y], acc ++ [d], w4, (s'.trans s2).trans s3, ?_, ?_, ?_, pv4, o3, ?_⟩
      · rw [rvs.length]
        omega
      · exact none_l k3.fl (show (upd L D (.lst vs)) D = some _ from upd_same)
      · exact RpA.append (.cons r3 .nil) (rvs.mono (s2.trans s3))
      · rw [List.length_append]
        exact Nat.succ_le_succ hal
      · have := k3.setL (o' := .lst (vs ++ [y])) (show (upd L D (.lst vs)) D = some _ from upd_same)
        rw [upd_upd] at this
        exact this
    | false =>
      rw [if_neg Bool.false_ne_true]
      exact ⟨F2, R2, vs, acc, w3, s'.trans s2, none_l k2.fl (show (upd L D (.lst vs)) D = some _ from upd_same), rvs.mono s2, by omega, ob.2 rfl, o2, k2⟩
  · have ei : i = xs.length := by omega
    subst ei
    refine .inl ⟨?_, ?_⟩
    · have := gd.2 H' sB
      rw [List.length_map] at this
      exact this
    · have kz := k'.freeze (show (upd L D (.lst vs)) D = some (.lst vs) from upd_same)
      rw [del_upd (k1.l.free hD)] at kz
      exact q (.d (.list acc)) w' _ _ R' H' (hd acc w' pv) ((s1.trans s').trans (same_new hF')) (Y.mono (same_new hF') o') (.lst upd_same (rvs.mono (same_new hF'))) rfl kz
theorem es_lcS (hc : X.calm = true) (hN : X.N.Nodup) (ok : BlkOk X.N X.env.scope scope own) (h : LcS X CA Y ρ w tg iter ifs elt scope own O Ox)
    (hs : ∀ x, foldedSetIterable iter X.env x = pure x := by intro _; rfl) : EvS X CA Y ρ w (.ListComp elt [⟨tg, iter, ifs, 0⟩] scope pos) O Ox := fun F L R H σ g ii k Q Wx tk q qx =>
  toE (pe_lc hc hN (pi_w tg iter) ok (fun s H1 C cl fp => ⟨fun pins s' σ H v u Q I r h => (h s H1 C cl fp).run pins s' u I r⟩) (fun s H1 C cl fp => ⟨fun pins s' σ H Q I h => (h s H1 C cl fp).run pins s' I⟩) (fun s H1 C cl fp => ⟨fun pins s' σ H Q I h => (h s H1 C cl fp).run pins s' I⟩) hs) (h F L R H σ g ii k Q Wx tk q qx)
/-- x = [..], with a state -/
theorem s_asgCS {OS : Out Y.W} (i : Nat) {x : Str} {p p2 : Pos} (hc : X.calm = true) (hN : X.N.Nodup) (ok : BlkOk X.N X.env.scope scope own) (h : LcS X CA Y ρ w tg iter ifs elt scope own (fun sv w' => ∃ d, sv = .d d ∧ OS.nx (ρ.set i (some (.d d))) w') (fun c w' => OS.ex c ρ w'))
    (hy : X.N[i]? = some x := by rfl) (hyl : X.env.scope.names.lookup x = some .local := by rfl) (hsw : swapsWith (.ListComp elt [⟨tg, iter, ifs, 0⟩] scope p2) (some (.Name x p)) pos.line X.env = pure true := by exact sw_true rfl rfl rfl (by decide +kernel)) (hs : ∀ x, foldedSetIterable iter X.env x = pure x := by intro _; rfl) :
    S1 X CA Y ρ w (.Assign [.Name x p] (.ListComp elt [⟨tg, iter, ifs, 0⟩] scope p2) pos) OS := fun F L R H σ g ii k D Wx tk m =>
  toS (ps_setLc hc hN hy hyl hsw (pi_w tg iter) ok (fun s H1 C cl fp => ⟨fun pins s' σ H v u Q I r h => (h s H1 C cl fp).run pins s' u I r⟩) (fun s H1 C cl fp => ⟨fun pins s' σ H Q I h => (h s H1 C cl fp).run pins s' I⟩) (fun s H1 C cl fp => ⟨fun pins s' σ H Q I h => (h s H1 C cl fp).run pins s' I⟩) hs)
    (h F L R H σ g ii k _ Wx tk (fun sv w' v F' R' H' o s' i' r' n' k' => by
      obtain ⟨d, e, o⟩ := o
      subst e
      exact m.nx _ w' F' L R' H' _ o s' i' ((g.mono s').setD i r') k') (fun c w' F' R' H' o s' i' k' => m.ex c ρ w' F' L R' H' σ o s' i' (g.mono s') k'))
end
/-! d.copy(), keys that are tuples and hash apart -/
def hashT (X : Cx) (k : List L2.Key) : Int := (tupleKind (mixKind X.prog X.w)).hash k
section
variable {X : Cx} {e : Expr} {td : TE} {apos cpos : Pos}
def tDCopyT (X : Cx) (td : TE) : TE := fun σ H Q => td σ H fun x H1 => ∃ (d : Addr) (kvs : List (List L2.Key × V)), x = .ref d ∧ Rd H1 d (.dT kvs) ∧ (kvs.map fun p => hashT X p.1).Nodup ∧ ∀ p, H1 p = none → Q (.ref p) (upd H1 p (.dT kvs))
theorem KT_hash {H : Hp} : ∀ {kvs : List (List L2.Key × V)} {xs : List (List L2.Key × Addr × Value)}, KT H kvs xs → (xs.map fun x => (tupleKind (mixKind X.prog X.w)).hash x.1) = kvs.map fun p => hashT X p.1
  | _, _, .nil => rfl
  | _, _, .cons hq t => by
    rw [List.map_cons, List.map_cons, KT_hash t, hq.1]
    rfl
theorem pe_dcopyT (he : PE X e td) (hbase : attributeBase e "copy" X.env (eval e X.env) = eval e X.env := by rfl) (hline : (apos.endLine == cpos.line) = true := by rfl) : PE X (.Call (.Attribute e "copy" apos) [] [] cpos) (tDCopyT X td) := by
  refine ⟨fun pins s σ H Q I h => ?_⟩
  refine wpAny_Call_method (T := "dict") (id := "dict.copy") hbase rfl hline F.plainAttrs_dict F.slot_dict_copy F.type_dict_copy (thn (he.run pins s σ H _ I h) fun u s1 ⟨x, H1, I1, rx, d, kvs, ex, hd, hap, q⟩ => ?_)
  subst ex
  obtain rfl : u = Value.ref d := rx
  obtain ⟨t1, t2, _⟩ := isD_at I1 (.inr ⟨_, hd⟩)
  refine ⟨t1, t2, ?_⟩
  obtain ⟨z, lo, xs, rel, dd⟩ := dt_rd I1.hok hd
  refine Calls.callWith_builtin rfl (PySem.evalArgs_none ?_)
  have ek : (xs.map fun x => (tupleKind (mixKind X.prog X.w)).hash x.1) = kvs.map fun p => hashT X p.1 := KT_hash rel
  have hz : xs.length ≤ sizeLine := by
    rw [← Paired.length rel]
    exact z
  obtain ⟨o0, es0, ep0, _, _, _, _, his, _⟩ := id dd
  refine call_copyH lo dd hz (keyed_apart tupleKind_stays dd) (by rw [ek]; exact hap) (fun h' hk x hm' => tupleKind_stays.stays (fun b o _ _ e _ => hk b o e) (his x hm')) fun h' dd' hk => ?_
  obtain ⟨o, es, ep, h1, h2, h3, h4, _, h5⟩ := dd'
  refine ⟨.ref s1.heap.objs.size, _, I1.laid (a := s1.heap.objs.size) (o := .dT kvs) (t' := s1.toks) (fun b q hq => hk b q hq) (Nat.le_refl _) ⟨z, beq_eq_false_iff_ne.mpr (Ne.symm (Nat.ne_of_lt I1.big)), xs, ?_, o, es, ep, h1, h2, h3, h4, h5⟩, rfl, q _ (I1.hok.fresh (Nat.le_refl _))⟩
  exact rel.keeps fun c ys ec => by
    have : c ≠ s1.heap.objs.size := fun z => by
      subst z
      rw [I1.hok.fresh (Nat.le_refl _)] at ec
      cases ec
    rw [upd_ne this]
    exact ec
end
section
variable {X : Cx} {CA : Str → Addr} {R0 : Hp} {ρ : Rho} {w : List Thing} {a : Expr} {apos cpos : Pos} {O : Sv → List Thing → Prop} {Ox : Str → List Thing → Prop} {q : Addr} {kss : List (List L2.Key × Sv)}
theorem es_dcopy (ha : EvV X ((ThW R0).om w) ρ a (.raw (.ref q))) (hd : DicR kdT w q kss) (hap : (kss.map fun p => hashT X p.1).Nodup) (h : ∀ p, O (.raw (.ref p)) (w ++ [DicS kdT p kss])) (hbase : attributeBase a "copy" X.env (eval a X.env) = eval a X.env := by rfl) (hline : (apos.endLine == cpos.line) = true := by rfl) :
    EvS X CA (ThW R0) ρ w (.Call (.Attribute a "copy" apos) [] [] cpos) O Ox := fun F L R H σ g ii k Q Wx tk qq qx =>
  toE (pe_dcopyT (pe_w a) hbase hline) (ha F L R H σ g ii k _ fun v F1 R1 H1 s1 o1 k1 r1 => by
    cases r1
    obtain ⟨kvs, h1, h2⟩ := hd F1 R0 R1 H1 o1 k1.f k1.r
    have ek : (kvs.map fun p => hashT X p.1) = kss.map fun p => hashT X p.1 := by
      have := congrArg (List.map (hashT X)) h2.keys
      rw [List.map_map, List.map_map] at this
      exact this
    refine ⟨q, kvs, rfl, h1, by rw [ek]; exact hap, fun p hp => ?_⟩
    exact qq (.raw (.ref p)) _ _ F1 _ _ (h p) s1 (Sep.new o1 (k1.r.free hp) ⟨kvs, upd_same, h2⟩) rfl rfl (k1.newR hp))
end
section
variable {X : Cx} {Ω : Om} {ρ : Rho} {a b : Expr} {pos p : Pos} {i j : Int}
/-- max(a, b), min(a, b) -/
theorem ev_max2 (hc : X.calm = true) (hm : X.mg "max" = none) (ha : Ev X Ω ρ a (.int i)) (hb : Ev X Ω ρ b (.int j)) (hg : Gl X "max" := by rfl) (he : starEach [a, b] X.env = (false, eval a X.env) :: starEach [b] X.env := by rfl) (he2 : starEach [b] X.env = (false, eval b X.env) :: starEach [] X.env := by rfl) (hpl : (backTo pos (starEach [b] X.env)).any (·.1) = false := by rfl) : Ev X Ω ρ (.Call (.Name "max" p) [a, b] [] pos) (.int (if j > i then j else i)) :=
  ev_callB (call_max2 hc) (fun F L R H vs k r Q q => by
    cases r with
    | cons r1 r2 =>
      cases r2 with
      | cons r2 r3 =>
        cases r3
        cases r1
        cases r2
        exact ⟨i, j, rfl, q.here k (.int _)⟩) hm (by decide +kernel) (ea_cons ha (ea_one hb he2) he) hg (by decide) (by decide) he hpl
theorem ev_min2 (hc : X.calm = true) (hm : X.mg "min" = none) (ha : Ev X Ω ρ a (.int i)) (hb : Ev X Ω ρ b (.int j)) (hg : Gl X "min" := by rfl) (he : starEach [a, b] X.env = (false, eval a X.env) :: starEach [b] X.env := by rfl) (he2 : starEach [b] X.env = (false, eval b X.env) :: starEach [] X.env := by rfl) (hpl : (backTo pos (starEach [b] X.env)).any (·.1) = false := by rfl) : Ev X Ω ρ (.Call (.Name "min" p) [a, b] [] pos) (.int (if j < i then j else i)) :=
  ev_callB (call_min2 hc) (fun F L R H vs k r Q q => by
    cases r with
    | cons r1 r2 =>
      cases r2 with
      | cons r2 r3 =>
        cases r3
        cases r1
        cases r2
        exact ⟨i, j, rfl, q.here k (.int _)⟩) hm (by decide +kernel) (ea_cons ha (ea_one hb he2) he) hg (by decide) (by decide) he hpl
end
end G
end

section
set_option Elab.async false
set_option linter.all false
set_option maxRecDepth 100000
set_option maxHeartbeats 4000000
/-! ### an exception out of a comprehension -/
namespace G
open PySem PySem.Spec PyProof.Rows L2
section
variable {M : Model} {A : Around} {E : Value → Shared → Prop} {s : Shared} {env : Env} {outer : List Env} {ground : Heap} {x L : Addr} {Z : Obj → Prop}
/-- noted, wherever it was held -/
theorem note_any {fl : Value} {Q : Unit → Shared → Prop} (hZ : HandSPX.Steady Z) (hfr : A.frames = some (env :: outer)) (hf : env.frame = some L) (hne : (fl == rawInt L) = false) (g1 : ground.StaysIn s.heap) (g2 : ground.get? x = none) (g3 : s.heap.FunFrames ground (env :: outer)) (tr : HandSPX.TracedZ s.heap ground x Z fl)
    (hQ : ∀ h', HandSPX.HeldZ ground (env :: outer) x Z L h' → s.heap.UpToSlots h' → Q () { s with heap := h' }) : wpAny M A (noteFrame (.ref x) env) Q E s := by
  obtain ⟨ox, fx, tb, ob, fb, e1, e2, e3, e4, e5, e6, e7, e8, e9⟩ := tr
  have far : ∀ c, c ≠ tb → (s.heap.update tb (Obj.mapFields (·.setIfInBounds 3 Value.none))).get? c = s.heap.get? c := fun c hc => Heap.get?_update_other _ _ (Ne.symm hc)
  have rec_ : ∀ c o, s.heap.get? c = some o → (∀ us, o.data ≠ .fields us) → c ≠ tb := fun c o hc hn z => by
    rw [z, e7] at hc
    cases hc
    exact hn fb e8
  unfold noteFrame
  simp only [hf]
  refine wpAny_bind (wpAny_field e1 e3 e4 ?_)
  rw [if_pos (by simp)]
  refine wpAny_bind (wpAny_field e7 e8 e9 ?_)
  rw [if_neg (by rw [hne]; exact Bool.false_ne_true)]
  refine wpAny_bind (wpAny_setField e7 e8 (Array.getElem?_eq_some_iff.mp e9).1 ?_)
  refine HandSPX.wpAny_entryZ hZ hfr (g3.of_keeps fun c o hc hn => ⟨o, (far c (rec_ c o hc hn)).trans hc, rfl⟩) hf ((far x (Ne.symm e6)).trans e1) (fun c o hc => (far c fun z => by rw [z, e5] at hc; cases hc).trans (g1 c o hc)) g2 e3 (Array.getElem?_eq_some_iff.mp e4).1 e2 fun h' hN => ?_
  obtain ⟨y1, y2, y3, y4⟩ := hN
  exact hQ h' ⟨y1, g2, y2, y3⟩ fun c o hc hn => y4 c o ((far c (rec_ c o hc hn)).trans hc) hn
/-- noted, from any place in the air -/
theorem note_sky {C : Addr} {Q : Unit → Shared → Prop} (hZ : HandSPX.Steady Z) (hfr : A.frames = some (env :: outer)) (hf : env.frame = some L) (hCL : C ≠ L) (sky : Sky ground (env :: outer) x Z C s.heap)
    (hQ : ∀ h', HandSPX.HeldZ ground (env :: outer) x Z L h' → s.heap.UpToSlots h' → Q () { s with heap := h' }) : wpAny M A (noteFrame (.ref x) env) Q E s := by
  rcases sky with ⟨hB, hn, hl, oe, vs, he, hz, hd, h1⟩ | fl | hh
  · exact HandSPX.look_newZ hZ hfr hl hf he hB hn hd h1 hz hQ
  · exact HandSPX.looks_onZ hZ hfr hf fl hQ
  · exact note_any hZ hfr hf (by
      cases q : (rawInt C == rawInt L) with
      | false => rfl
      | true =>
        exfalso
        have := eq_of_beq q
        simp [rawInt] at this
        exact hCL (Int.ofNat.inj this)) hh.1 hh.2.1 hh.2.2.1 hh.2.2.2 hQ
end
theorem frames_at {B B2 h1 h2 : Heap} : ∀ {l : List Env}, (∀ L ∈ frs l, h2.get? L = h1.get? L) → (∀ L ∈ frs l, B2.get? L = none) → h1.FunFrames B l → h2.FunFrames B2 l
  | [], _, _, _ => trivial
  | env :: r, k1, k2, ⟨hk, ⟨L, o, hf, hn, ho, hd⟩, hr⟩ => by
    have e : frs (env :: r) = L :: frs r := by
      unfold frs
      rw [List.filterMap_cons, hf]
    rw [e] at k1 k2
    exact ⟨hk, ⟨L, o, hf, k2 L List.mem_cons_self, (k1 L List.mem_cons_self).trans ho, hd⟩, frames_at (fun L' hL => k1 L' (List.mem_cons_of_mem _ hL)) (fun L' hL => k2 L' (List.mem_cons_of_mem _ hL)) hr⟩
section
variable {X : Cx} {scope : Scope}
/-- the block lets an exception out: it is in the def's air -/
theorem out_of {pins p9 : List (Addr × Obj)} {σ : L2.St} {H3 : Hp} {s3 : Shared} {ce : Env} {fp : List Addr} {xe : Value → Shared → Prop} {Wx : WX} {use : Option (Value → Sem Unit)} {Qf : Value → Shared → Prop} {acc : Value} (tk : Takes X Wx) (hst : X.stack = X.env :: X.outer) (hfm : X.env.frame = some X.env.locals) (hce : ce.frame = X.env.frame) (cL : ce.locals = s3.heap.objs.size) (K3 : Inv X pins σ H3 s3)
    (f3 : ∀ b ∈ fp, FpOk X pins H3 b) (ok9 : (X.blk s3 H3 scope ce fp).Ok) : ∀ u s', XE ((X.blk s3 H3 scope ce fp).tr ((X.blk s3 H3 scope ce fp).pn ++ p9) xe) (fun cls d _ H => Wx cls d σ H) u s' → notedBy (model X.prog X.w) X.A ce (fun e s' => compEnds (model X.prog X.w) X.A X.xe use Qf acc ce (.error e) s') u s' := by
  rintro u s' ⟨a, B, sI, pns, σ', H', cls, d, rfl, J', nb, up, sky, na, os, ag, wx⟩
  have J := J'.ofTry (X := X.blk s3 H3 scope ce fp) ok9
  have hfr : X.A.frames = some (X.env :: X.outer) := by
    rw [K3.ok.frames, hst]
  have hL : ce.locals ≠ X.env.locals := by
    rw [cL]
    exact Nat.ne_of_gt K3.lt
  have sky : Sky B (X.env :: X.outer) a (Zc cls d) ce.locals s'.heap := by
    rw [← hst]
    exact sky
  have en : noteFrame (.ref a) ce = noteFrame (.ref a) X.env := by
    unfold noteFrame PySem.frameOf
    rw [hce]
  show wpAny _ _ (noteFrame (.ref a) ce) _ _ _
  rw [en]
  refine note_sky Zc.steady hfr hfm hL sky fun h1 hh up1 => ?_
  obtain ⟨m, hn, _⟩ := J.loc
  have hn : sI.heap.Ns ce.locals m := hn
  have nC : H' ce.locals = none := J.free
  have fC : FpOk X pins H' ce.locals := by
    rw [cL] at nC ⊢
    exact K3.fpOk (Nat.le_refl _) nC
  have cF : ce.locals ∉ frs X.stack := by
    rw [hst]
    unfold frs
    rw [List.filterMap_cons, hfm]
    intro hm
    rcases List.mem_cons.mp hm with z | z
    · exact hL z
    · exact fC.2.2.1 z
  obtain ⟨q1, q2, q3, q4⟩ := hh
  have atC : ∀ o, sI.heap.get? ce.locals = some o → B.get? ce.locals = some o := fun o e => nb _ o e cF
  have aC : a ≠ ce.locals := fun z => by
    obtain ⟨o, _, _, e, _⟩ := id hn
    rw [← z] at atC e
    rw [atC o e] at q2
    cases q2
  refine ⟨m, hn.at fun o e => q1 _ o (atC o e), fun h2 m2 hn2 sb => ?_⟩
  -- the def's own state, without the block's names
  have I7 : Inv X pins σ H' sI := K3.call' (ch := fp) J.os J.base J.hok J.bare fun b hb => ⟨(f3 b hb).2.2.2.1, (f3 b hb).2.1, (f3 b hb).2.2.2.2.1, (f3 b hb).2.2.2.2.2⟩
  have I8 : Inv X pins σ H' { sI with heap := PySem.W.hideAll sI.heap [ce.locals] } := I7.turned (t' := sI.toks) (fun b o hb e => PySem.W.hideAll_get _ e (by simpa using hb)) fC.1 fC.2.1 fC.2.2.2.1 fC.2.2.2.2.1 fC.2.2.2.2.2
  have st2 : (PySem.W.hideAll B [ce.locals]).StaysIn h2 := fun b o e => by
    have hb : b ≠ ce.locals := fun z => by
      rw [z, PySem.W.hideAll_none _ (by simp)] at e
      cases e
    exact (sb.2 b hb).trans (q1 b o (PySem.W.of_hideAll _ e))
  have na2 : (PySem.W.hideAll B [ce.locals]).get? a = none := by
    cases e : (PySem.W.hideAll B [ce.locals]).get? a with
    | none => rfl
    | some o =>
      rw [PySem.W.of_hideAll _ e] at q2
      cases q2
  have fr2 : h2.FunFrames (PySem.W.hideAll B [ce.locals]) (X.env :: X.outer) := by
    refine frames_at (fun L hm => sb.2 L fun z => cF (by rw [hst, ← z]; exact hm)) (fun L hm => ?_) q3
    cases e : (PySem.W.hideAll B [ce.locals]).get? L with
    | none => rfl
    | some o =>
      have := (q3.mem hm).1
      rw [PySem.W.of_hideAll _ e] at this
      cases this
  obtain ⟨ox, fx, tb, ob, fb, e1, e2, e3, e4, e5, e6, e7, e8, e9⟩ := q4
  have tC : tb ≠ ce.locals := fun z => by
    obtain ⟨o, _, _, e, _⟩ := id hn
    rw [← z] at atC e
    rw [atC o e] at e5
    cases e5
  have tr2 : HandSPX.TracedZ h2 (PySem.W.hideAll B [ce.locals]) a (Zc cls d) (rawInt X.env.locals) := by
    refine ⟨ox, fx, tb, ob, fb, (sb.2 a aC).trans e1, e2, e3, e4, ?_, e6, (sb.2 tb tC).trans e7, e8, e9⟩
    cases e : (PySem.W.hideAll B [ce.locals]).get? tb with
    | none => rfl
    | some o =>
      rw [PySem.W.of_hideAll _ e] at e5
      cases e5
  show wpAny _ _ (PySem.passOn "comprehension.variables-let-go" (.ref a) ce : Sem Value) _ _ _
  unfold PySem.passOn
  refine wpAny_bind (wpAny_field ((sb.2 a aC).trans e1) e3 e4 ?_)
  rw [if_neg (by simp)]
  rw [hce, hfm]
  refine wpAny_bind (HandSPX.setFlight_onZ (L := X.env.locals) ⟨st2, na2, fr2, tr2⟩ fun h3 hh3 up3 => wpAny_throw (tk _ _ ?_))
  refine ⟨a, PySem.W.hideAll B [ce.locals], _, pins, σ, H', cls, d, rfl, I8, fun b o e hb => ?_, ?_, .inr (.inr (by rw [hst]; exact hh3)), na, os, ag, wx⟩
  · have hbC : b ≠ ce.locals := fun z => by
      have e : (PySem.W.hideAll sI.heap [ce.locals]).get? b = some o := e
      rw [z, PySem.W.hideAll_none _ (by simp)] at e
      cases e
    exact PySem.W.hideAll_get _ (nb b o (PySem.W.of_hideAll _ e) hb) (by simpa using hbC)
  · intro b o e hnf
    have hbC : b ≠ ce.locals := fun z => by
      have e : (PySem.W.hideAll sI.heap [ce.locals]).get? b = some o := e
      rw [z, PySem.W.hideAll_none _ (by simp)] at e
      cases e
    obtain ⟨s1, k1⟩ := up b o (PySem.W.of_hideAll _ e) hnf
    obtain ⟨s2, k2⟩ := up1 b _ k1 hnf
    have k4 := (sb.2 b hbC).trans k2
    obtain ⟨s5, k5⟩ := up3 b _ k4 hnf
    exact ⟨s5, k5⟩
variable {elt tg iter : Expr} {ifs : List Expr} {own : List (Str × Nat)} {pos pos' : Pos} {wi : TI} {g : TG} {tt : TT} {te : TE}
/-- a comprehension whose element may raise -/
theorem lcX_core {pins : List (Addr × Obj)} {s : Shared} {σ : L2.St} {H : Hp} {Q : VK} {use : Option (Value → Sem Unit)} {Qf : Value → Shared → Prop} {Wx : WX} (hcalm : X.calm = true) (hnd : X.N.Nodup) (tk : Takes X Wx) (hst : X.stack = X.env :: X.outer) (hfm : X.env.frame = some X.env.locals) (I0 : Inv X pins σ H s) (hit : PI X tg iter wi) (blk : BlkOk X.N X.env.scope scope own)
    (pgs : ∀ s H C cl fp, PG (Bk X scope s H C cl fp) tg g) (pts : ∀ s H C cl fp, PTs (Bk X scope s H C cl fp) ifs tt)
    (pes : ∀ s H C cl fp pn xe, Takes ((Bk X scope s H C cl fp).tr pn xe) (fun cls d _ H => Wx cls d σ H) → PE ((Bk X scope s H C cl fp).tr pn xe) elt te) (hfold : ∀ x, foldedSetIterable iter X.env x = pure x)
    (hw : tLc wi g tt te (own.map (·.2)) σ H Q)
    (hend : ∀ D (ce : Env) s' m H', Inv X pins σ H' s' → Q (.ref D) H' → s'.heap.Ns ce.locals m → FpOk X pins H' ce.locals → compEnds (model X.prog X.w) X.A X.xe use Qf (.ref D) ce (.ok .next) s') :
    wpAny (model X.prog X.w) X.A (comprehension (.ListComp elt [⟨tg, iter, ifs, 0⟩] scope pos) scope X.env pos' (newList []) false (eval iter X.env) use) Qf X.xe s := by
  have outs : ∀ y ∈ scope.names, y.2 = .free → ∃ c, X.env.cells.lookup y.1 = some c := fun y hy e => (blk.free y hy e).elim (fun k => I0.ok.has _ (.inl k)) fun k => I0.ok.has _ (.inr k)
  refine comprehension_at (use := use) rfl hfold (closure_ok outs) blk.kind (fun y hy e => (blk.uniq y hy).trans (by rw [e])) (thn (hit.run pins s σ H _ I0 hw) fun xv sa hx => thn hx fun itv sb h2 => ?_)
  obtain ⟨it, fp, tn, J, H2, e, I2, T, st2, f2, q⟩ := h2
  subst e
  refine wpAny_newObj_type (newEnv_comp ?_) (by show 0 ≤ sizeLine; decide)
  generalize hD : sb.heap.objs.size = D
  have dNew : H2 D = none := I2.hok.fresh (Nat.le_of_eq hD)
  obtain ⟨W, ⟨m0, w0⟩, turn⟩ := q D dNew
  generalize hs3 : ({ sb with heap := sb.heap.push { cls := .type "list", data := .seq ([] : List Value).toArray } } : Shared) = s3
  have heap3 : s3.heap = sb.heap.push { cls := .type "list", data := .seq ([] : List Value).toArray } := by
    rw [← hs3]
  have I3 : Inv X pins σ (upd H2 D (.lst [])) s3 := by
    rw [← hs3]
    refine I2.laid (t' := sb.toks) (fun b o e => Heap.get?_push_of_some _ e) (Nat.le_of_eq hD) ⟨Nat.zero_le _, [], 0, .nil, ?_⟩
    rw [← hD]
    exact Heap.get?_push_size _ rfl
  have f3 : ∀ b ∈ fp, FpOk X pins (upd H2 D (.lst [])) b ∧ b < s3.heap.objs.size := fun b hb => by
    obtain ⟨o, eo, _⟩ := T.obj _ _ st2 b hb
    have low := Heap.lt_size eo
    refine ⟨⟨?_, (f2 b hb).2⟩, by rw [heap3, Heap.size_push]; exact Nat.lt_succ_of_lt low⟩
    rw [upd_ne (by rw [← hD]; exact Nat.ne_of_lt low)]
    exact (f2 b hb).1
  have st3 : tn 0 s3.heap := T.keep _ _ _ st2 fun b _ o e => by
    rw [heap3]
    exact Heap.get?_push_of_some _ e
  have I4 := block_start I3 blk hnd f3
  show codeAny _ _ (.compStart (.ListComp elt [⟨tg, iter, ifs, 0⟩] scope pos) 0 (.ref it) (.ref D) (compEnvC scope (cellsFrom (s3.heap.objs.size + 1) scope.names (cloFrom X.env.cells scope.names [])) s3.heap.objs.size X.env)) (compEnds (model X.prog X.w) X.A X.xe use Qf (.ref D) (compEnvC scope (cellsFrom (s3.heap.objs.size + 1) scope.names (cloFrom X.env.cells scope.names [])) s3.heap.objs.size X.env)) { s3 with heap := pushCells (s3.heap.push { cls := .type "dict", data := .dict #[] }) scope.names }
  generalize hcl : cellsFrom (s3.heap.objs.size + 1) scope.names (cloFrom X.env.cells scope.names []) = cl at I4 ⊢
  have pg : PG (X.blk s3 (upd H2 D (.lst [])) scope (compEnvC scope cl s3.heap.objs.size X.env) fp) tg g := pgs s3 (upd H2 D (.lst [])) s3.heap.objs.size cl fp
  have pt : PTs (X.blk s3 (upd H2 D (.lst [])) scope (compEnvC scope cl s3.heap.objs.size X.env) fp) ifs tt := pts s3 (upd H2 D (.lst [])) s3.heap.objs.size cl fp
  have pe : ∀ pn xe, Takes ((X.blk s3 (upd H2 D (.lst [])) scope (compEnvC scope cl s3.heap.objs.size X.env) fp).tr pn xe) (fun cls d _ H => Wx cls d σ H) → PE ((X.blk s3 (upd H2 D (.lst [])) scope (compEnvC scope cl s3.heap.objs.size X.env) fp).tr pn xe) elt te := pes s3 (upd H2 D (.lst [])) s3.heap.objs.size cl fp
  have noFp : ∀ b ∈ fp, (upd H2 D (.lst [])) b = none := fun b hb => (f3 b hb).1.1
  have ceF : (compEnvC scope cl s3.heap.objs.size X.env).frame = X.env.frame := rfl
  have ceL : (compEnvC scope cl s3.heap.objs.size X.env).locals = s3.heap.objs.size := rfl
  generalize hce : compEnvC scope cl s3.heap.objs.size X.env = ce at I4 pg pt pe ceF ceL ⊢
  generalize hH3 : upd H2 D (.lst []) = H3 at I3 I4 pg pt pe w0 noFp f3
  generalize hs4 : ({ s3 with heap := pushCells (s3.heap.push { cls := .type "dict", data := .dict #[] }) scope.names } : Shared) = s4 at I4 ⊢
  have st4 : tn 0 s4.heap := T.keep _ _ _ st3 fun b _ o e => by
    rw [← hs4]
    exact pushCells_keeps _ _ _ _ (Heap.get?_push_of_some _ e)
  have okB : (X.blk s3 H3 scope ce fp).Ok := I4.ok
  have ready : ∀ {σ' : L2.St} {H' : Hp} {s' : Shared}, Inv (X.blk s3 H3 scope ce fp) [] σ' H' s' → (∀ b ∈ fp, H' b = none) → ∀ b ∈ fp, FpOk (X.blk s3 H3 scope ce fp) [] H' b := fun {σ' H' s'} I' no b hb =>
    ⟨no b hb, (I'.ok.exf b hb).1, I'.ok.exfs b hb, .inl hb, (I'.ok.exf b hb).2, fun p hp => absurd (show p ∈ ([] : List (Addr × Obj)) ++ [] from hp) (by simp)⟩
  have loop : codeAny (model X.prog X.w) X.A (.compLoop (.ListComp elt [⟨tg, iter, ifs, 0⟩] scope pos) 0 (.ref it) (.ref D) ce) (compEnds (model X.prog X.w) X.A X.xe use Qf (.ref D) ce) s4 := by
    refine compLoop_any (fun n s' => ∃ i H', Inv (X.blk s3 H3 scope ce fp) [] (wipe σ (own.map (·.2))) H' s' ∧ tn i s'.heap ∧ (∀ b ∈ fp, H' b = none) ∧ W i n H') ?_ m0 ⟨0, H3, I4, st4, noFp, w0⟩
    rintro n s5 ⟨i, H5, I5, st5, n5, w5⟩
    rcases turn i n H5 w5 with ⟨stop, qq⟩ | ⟨go, Nx, hNx, step⟩
    · refine thnF (T.done (X.blk s3 H3 scope ce fp) rfl rfl rfl hcalm i [] s5 _ H5 (fun _ _ => False) I5 (ready I5 n5) st5 stop) fun r s6 ⟨hr, I6⟩ => ?_
      subst hr
      obtain ⟨m, hn, _⟩ := id I6.loc
      have nC : H5 ce.locals = none := I6.free
      refine hend D ce s6 m H5 (I3.call' (ch := fp) I6.os I6.base I6.hok I6.bare fun b hb => ?_) qq hn ?_
      · have z := (f3 b hb).1
        exact ⟨z.2.2.2.1, z.2.1, z.2.2.2.2.1, z.2.2.2.2.2⟩
      · rw [ceL] at nC ⊢
        exact I3.fpOk (Nat.le_refl _) nC
    · refine thnF (T.item (X.blk s3 H3 scope ce fp) rfl rfl rfl hcalm i [] s5 _ H5 (fun _ _ => False) I5 (ready I5 n5) st5 go) fun r s6 ⟨u, hr, h6⟩ => ?_
      subst hr
      refine thnF h6 fun _ s7 ⟨x, H7, I7, r7, y7, st7, n7⟩ => ?_
      refine thnF (pg.run _ s7 _ H7 x u _ (I7.pinned (ready I7 n7) (T.obj _ _ st7)) r7 (step x H7 y7)) fun _ s8 ⟨σ8, H8, I8, hw8, q8⟩ => ?_
      refine thnF (pt.run _ s8 σ8 H8 _ I8 q8) fun b s9 ⟨H9, I9, q9⟩ => ?_
      have fin : ∀ {s' : Shared} {H' : Hp}, Inv (X.blk s3 H3 scope ce fp) ([] ++ pinsAt fp s7.heap) σ8 H' s' → Nx H' → ∃ m, m < n ∧ ∃ i H', Inv (X.blk s3 H3 scope ce fp) [] (wipe σ (own.map (·.2))) H' s' ∧ tn i s'.heap ∧ (∀ b ∈ fp, H' b = none) ∧ W i m H' := fun {s' H'} I' nx => by
        obtain ⟨m', hm, w'⟩ := hNx H' nx
        have held : ∀ b ∈ fp, ∀ o, s7.heap.get? b = some o → s'.heap.get? b = some o ∧ H' b = none := fun b hb o e => by
          have z := I'.pin (b, o) (List.mem_append_right _ (List.mem_append_right _ (mem_pinsAt hb e)))
          exact ⟨z.1, z.2.1⟩
        have len8 : (wipe σ (own.map (·.2))).length = σ8.length := by
          rw [← hw8, wipe_length]
        refine ⟨m', hm, i + 1, H', (I'.unpinned (pins := [])).weak len8 (fun j v e => ?_), T.keep _ _ _ st7 fun b hb o e => (held b hb o e).1, fun b hb => ?_, w'⟩
        · rw [← hw8] at e
          exact (wipe_some e).1
        · obtain ⟨o, e, _⟩ := T.obj _ _ st7 b hb
          exact (held b hb o e).2
      cases b with
      | false =>
        simp only [Bool.false_eq_true, if_false] at q9 ⊢
        exact fin I9 q9
      | true =>
        simp only [if_true] at q9 ⊢
        have tkB := out_of (p9 := [] ++ pinsAt fp s7.heap) (xe := notedBy (model X.prog X.w) X.A ce fun e s' => compEnds (model X.prog X.w) X.A X.xe use Qf (.ref D) ce (.error e) s') (use := use) (Qf := Qf) (acc := .ref D) tk hst hfm ceF ceL I3 (fun b hb => (f3 b hb).1) okB
        refine wpAny_mono ((pe _ _ tkB).run [] s9 σ8 H9 _ (I9.toTry _) q9) (fun z s10 ⟨yv, H10, I10, r10, acc, hD10, hz10, nx⟩ => ?_) fun _ _ y => y
        exact app_ok (X := X.blk s3 H3 scope ce fp) (I10.ofTry okB) hD10 hz10 r10 fun s11 I11 => fin I11 nx
  exact codeAny_compStart_list loop (T.self X.A 0 _ _ _ st4 loop)
end
section
variable {X : Cx} {CA : Str → Addr} {Y : Wd} {ρ : Rho} {w : Y.W} {elt tg iter : Expr} {ifs : List Expr} {scope : Scope} {own : List (Str × Nat)} {pos : Pos} {O : Sv → Y.W → Prop} {Ox : Str → Y.W → Prop}
abbrev teX (X : Cx) (Wx : WX) (σ0 : L2.St) (scope : Scope) (elt : Expr) : TE := fun σ H Q => ∀ s H1 C cl fp pn xe, Takes ((Bk X scope s H1 C cl fp).tr pn xe) (fun cls d _ H => Wx cls d σ0 H) → wE ((Bk X scope s H1 C cl fp).tr pn xe) elt σ H Q
/-- [elt for tg in iter if ..], with a state; the element may raise -/
def LcX (X : Cx) (CA : Str → Addr) (Y : Wd) (ρ : Rho) (w : Y.W) (tg iter : Expr) (ifs : List Expr) (elt : Expr) (scope : Scope) (own : List (Str × Nat)) (O : Sv → Y.W → Prop) (Ox : Str → Y.W → Prop) : Prop := ∀ F L R H σ, Sg F L σ ρ → Y.I w F R → Ok F L R H → ∀ (Q : VK) (Wx : WX), Takes X Wx → ToS Y F L O Q → ToX CA Y F L σ Ox Wx →
  tLc (wI X tg iter) (fun v σ H Q => ∀ s H1 C cl fp, wG (Bk X scope s H1 C cl fp) tg v σ H Q) (fun σ H Q => ∀ s H1 C cl fp, wTs (Bk X scope s H1 C cl fp) ifs σ H Q) (teX X Wx σ scope elt) (own.map (·.2)) σ H Q
theorem lcX {α : Type} (enc : α → PyData)
    (hi : EvSI X CA Y ρ w tg iter (fun ds w1 => ∃ xs : List α, ds = xs.map enc ∧ xs.length < sizeLine ∧ ∃ (rt : α → Rho) (Pv : Nat → List PyData → Y.W → Prop), Pv 0 [] w1 ∧
      (∀ (i : Nat) (x : α) acc w', xs[i]? = some x → Pv i acc w' → (∀ s H C cl fp, TgD (Bk X scope s H C cl fp) (own.map (·.2)) tg (enc x) (wipeR ρ (own.map (·.2))) (rt x)) ∧
        ∀ s H C cl fp, EvSTs (Bk X scope s H C cl fp) Y (rt x) w' ifs (fun b w2 => (b = true → ∀ s H C cl fp pn xe, EvS ((Bk X scope s H C cl fp).tr pn xe) CA Y (rt x) w2 elt (fun sv w3 => ∃ d, sv = .d d ∧ Pv (i + 1) (acc ++ [d]) w3) Ox) ∧ (b = false → Pv (i + 1) acc w2))) ∧
      ∀ acc w', Pv xs.length acc w' → O (.d (.list acc)) w') Ox) : LcX X CA Y ρ w tg iter ifs elt scope own O Ox := fun F L R H σ g ii k Q Wx tk q qx => by
  refine hi F L R H σ g ii k _ Wx tk (fun ds w1 J F1 R1 H1 o1 s1 i1 k1 gd => ?_) qx
  obtain ⟨xs, e0, hz, rt, Pv, h0, hst, hd⟩ := o1
  subst e0
  intro D hD
  refine ⟨fun i m H' => m = xs.length - i ∧ i ≤ xs.length ∧ ∃ F' R' vs acc w', Same F1 F' ∧ F' D = none ∧ RpA F' vs acc ∧ acc.length ≤ i ∧ Pv i acc w' ∧ Y.I w' F' R' ∧ Ok F' (upd L D (.lst vs)) R' H', ⟨xs.length, by simp, Nat.zero_le _, F1, R1, [], [], w1, Same.refl _, k1.f.free hD, .nil, Nat.le_refl _, h0, i1, k1.newL hD⟩, ?_⟩
  rintro i m H' ⟨rfl, hile, F', R', vs, acc, w', s', hF', rvs, hal, pv, o', k'⟩
  have sL : ∀ o : HO, Same L (upd L D o) := fun o => same_new (k1.l.free hD)
  have sB : Same F1 H' := s'.trans k'.f
  by_cases hlt : i < xs.length
  · have hx : xs[i]? = some xs[i] := List.getElem?_eq_getElem hlt
    have hgd := gd.1 H' sB i (enc xs[i]) (by rw [List.getElem?_map, hx]; rfl)
    obtain ⟨htg, hts⟩ := hst i xs[i] acc w' hx pv
    refine .inr ⟨hgd.1, fun H2 => ∃ F' R' vs acc w', Same F1 F' ∧ F' D = none ∧ RpA F' vs acc ∧ acc.length ≤ i + 1 ∧ Pv (i + 1) acc w' ∧ Y.I w' F' R' ∧ Ok F' (upd L D (.lst vs)) R' H2, fun H2 h => ⟨xs.length - (i + 1), by omega, rfl, hlt, h⟩, ?_⟩
    intro x H2 hy
    obtain ⟨e2, rx⟩ := hgd.2 x H2 hy
    subst e2
    intro s5 H5 C5 cl5 fp5
    have gL : Sg F' (upd L D (.lst vs)) (wipe σ (own.map (·.2))) (wipeR ρ (own.map (·.2))) := ((g.mono (s1.trans s')).wipe (own.map (·.2))).wider (sL _)
    refine htg s5 H5 C5 cl5 fp5 F' _ R' H2 _ x gL k' (rx.mono s') _ fun σ2 g2 w2 => ⟨by rw [w2]; exact wipe_twice _ _, ?_⟩
    intro s7 H7 C7 cl7 fp7
    refine hts s7 H7 C7 cl7 fp7 F' _ R' H2 σ2 g2 o' k' _ fun b w3 F2 R2 H3 ob s2 o2 k2 => ?_
    cases b with
    | true =>
      rw [if_pos rfl]
      intro s6 H6 C6 cl6 fp6 pn6 xe6 tk6
      refine ob.1 rfl s6 H6 C6 cl6 fp6 pn6 xe6 F2 _ R2 H3 σ2 (g2.mono s2) o2 k2 _ _ tk6 (fun sv w4 y F3 R3 H4 o4 s3 o3 r3 n3 k3 => ?_) (fun c w4 F3 R3 H4 o4 s3 o3 k3 => ?_)
      · obtain ⟨d, e4, pv4⟩ := o4
        subst e4
        refine ⟨vs, k3.l D _ upd_same, ?_, F3, R3, vs ++ [y], acc ++ [d], w4, (s'.trans s2).trans s3, ?_, ?_, ?_, pv4, o3, ?_⟩
        · rw [rvs.length]
          omega
        · exact none_l k3.fl (show (upd L D (.lst vs)) D = some _ from upd_same)
        · exact RpA.append (.cons r3 .nil) (rvs.mono (s2.trans s3))
        · rw [List.length_append]
          exact Nat.succ_le_succ hal
        · have := k3.setL (o' := .lst (vs ++ [y])) (show (upd L D (.lst vs)) D = some _ from upd_same)
          rw [upd_upd] at this
          exact this
      · have kz := k3.freeze (show (upd L D (.lst vs)) D = some (.lst vs) from upd_same)
        rw [del_upd (k1.l.free hD)] at kz
        have hF3 : F3 D = none := none_l k3.fl (show (upd L D (.lst vs)) D = some _ from upd_same)
        exact qx c w4 _ R3 H4 o4 (((s1.trans s').trans (s2.trans s3)).trans (same_new hF3)) (Y.mono (same_new hF3) o3) kz
    | false =>
      rw [if_neg Bool.false_ne_true]
      exact ⟨F2, R2, vs, acc, w3, s'.trans s2, none_l k2.fl (show (upd L D (.lst vs)) D = some _ from upd_same), rvs.mono s2, by omega, ob.2 rfl, o2, k2⟩
  · have ei : i = xs.length := by omega
    subst ei
    refine .inl ⟨?_, ?_⟩
    · have := gd.2 H' sB
      rw [List.length_map] at this
      exact this
    · have kz := k'.freeze (show (upd L D (.lst vs)) D = some (.lst vs) from upd_same)
      rw [del_upd (k1.l.free hD)] at kz
      exact q (.d (.list acc)) w' _ _ R' H' (hd acc w' pv) ((s1.trans s').trans (same_new hF')) (Y.mono (same_new hF') o') (.lst upd_same (rvs.mono (same_new hF'))) rfl kz
theorem es_lcX (hst : X.stack = X.env :: X.outer) (hfm : X.env.frame = some X.env.locals) (hc : X.calm = true) (hN : X.N.Nodup) (ok : BlkOk X.N X.env.scope scope own) (h : LcX X CA Y ρ w tg iter ifs elt scope own O Ox)
    (hs : ∀ x, foldedSetIterable iter X.env x = pure x := by intro _; rfl) : EvS X CA Y ρ w (.ListComp elt [⟨tg, iter, ifs, 0⟩] scope pos) O Ox := fun F L R H σ g ii k Q Wx tk q qx => ⟨fun pins s I => by
  rw [eval_ListComp]
  refine lcX_core hc hN tk hst hfm I (pi_w tg iter) ok (fun s H1 C cl fp => ⟨fun pins s' σ H v u Q I r h => (h s H1 C cl fp).run pins s' u I r⟩) (fun s H1 C cl fp => ⟨fun pins s' σ H Q I h => (h s H1 C cl fp).run pins s' I⟩) (fun s H1 C cl fp pn xe tk' => ⟨fun pins s' σ' H Q I h => (h s H1 C cl fp pn xe tk').run pins s' I⟩) hs (h F L R H σ g ii k Q Wx tk q qx) fun D ce s' m H' I' q hn f => ⟨m, hn, fun h2 sb => ?_⟩
  obtain ⟨f0, f1, f2, f3, f4, f5⟩ := f
  exact ⟨.ref D, H', I'.turned (t' := s'.toks) (fun b o hb e => (sb.2 b hb).trans e) f0 f1 f3 f4 f5, rfl, q⟩⟩
/-- x = [..], x a local; the element may raise -/
theorem s_asgCX {OS : Out Y.W} (i : Nat) {x : Str} {p p2 : Pos} (hst : X.stack = X.env :: X.outer) (hfm : X.env.frame = some X.env.locals) (hc : X.calm = true) (hN : X.N.Nodup) (ok : BlkOk X.N X.env.scope scope own) (h : LcX X CA Y ρ w tg iter ifs elt scope own (fun sv w' => ∃ d, sv = .d d ∧ OS.nx (ρ.set i (some (.d d))) w') (fun c w' => OS.ex c ρ w'))
    (hy : X.N[i]? = some x := by rfl) (hyl : X.env.scope.names.lookup x = some .local := by rfl) (hsw : swapsWith (.ListComp elt [⟨tg, iter, ifs, 0⟩] scope p2) (some (.Name x p)) pos.line X.env = pure true := by exact sw_true rfl rfl rfl (by decide +kernel)) (hs : ∀ x, foldedSetIterable iter X.env x = pure x := by intro _; rfl) :
    S1 X CA Y ρ w (.Assign [.Name x p] (.ListComp elt [⟨tg, iter, ifs, 0⟩] scope p2) pos) OS := fun F L R H σ g ii k D Wx tk m => ⟨fun pins s I => by
  have hw := h F L R H σ g ii k (fun v H1 => gName i v σ H1 D.nx) Wx tk (fun sv w' v F' R' H' o s' i' r' n' k' => by
      obtain ⟨d, e, o⟩ := o
      subst e
      exact m.nx _ w' F' L R' H' _ o s' i' ((g.mono s').setD i r') k') (fun c w' F' R' H' o s' i' k' => m.ex c ρ w' F' L R' H' σ o s' i' (g.mono s') k')
  rw [exec_Assign_Name_used _ _ _ _ hsw]
  refine wpAny_bind (wpAny_standAt (wpAny_bind ?_))
  show wpAny _ X.A (do let _ ← comprehension (.ListComp elt [⟨tg, iter, ifs, 0⟩] scope p2) scope X.env (firstIterPos [⟨tg, iter, ifs, 0⟩] p2) (newList []) false (eval iter X.env) (some (assign (.Name x p) X.env))) _ _ s
  refine wpAny_bind (thn (lcX_core (Qf := fun _ s' => SP X pins D .next s') hc hN tk hst hfm I (pi_w tg iter) ok (fun s H1 C cl fp => ⟨fun pins s' σ H v u Q I r h => (h s H1 C cl fp).run pins s' u I r⟩) (fun s H1 C cl fp => ⟨fun pins s' σ H Q I h => (h s H1 C cl fp).run pins s' I⟩) (fun s H1 C cl fp pn xe tk' => ⟨fun pins s' σ' H Q I h => (h s H1 C cl fp pn xe tk').run pins s' I⟩) hs hw fun B ce s1 mm H1 I1 q hn f => ?_) fun _ _ hq => wpAny_pure (wpAny_pure hq))
  show wpAny _ _ (assign (.Name x p) X.env (.ref B)) _ _ _
  refine wpAny_assign_Name (store_ok2 (v := V.ref B) I1 hN hy (.inl hyl) rfl (fun s2 I2 ⟨a, sa, ha⟩ => ?_) (.inr hyl))
  obtain ⟨f0, f1, f2, f3, f4, f5⟩ := f
  have ne : ce.locals ≠ a := by
    rcases ha with z | z
    · rw [z]
      exact f1
    · exact fun e => f4 x a z e.symm
  exact ⟨mm, hn.sameBut sa ne, fun h3 sb3 => ⟨_, H1, I2.turned (t' := s2.toks) (fun b o hb e => (sb3.2 b hb).trans e) f0 f1 f3 f4 f5, q⟩⟩⟩
/-- a list with a state, to be gone through -/
theorem esi_list {e : Expr} {OI : List PyData → Y.W → Prop} (h : EvS X CA Y ρ w e (fun sv w1 => ∃ ds, sv = .d (.list ds) ∧ OI ds w1) Ox) : EvSI X CA Y ρ w tg e OI Ox := fun F L R H σ g i k Q Wx tk q qx =>
  toI (pi_list (pe_w e)) (h F L R H σ g i k _ Wx tk (fun sv w1 v F1 R1 H1 o1 s1 i1 r1 n1 k1 => by
    obtain ⟨ds, e1, o⟩ := o1
    subst e1
    cases r1 with
    | lst h1 r => exact ⟨_, rfl, ⟨_, SqL.of (k1.f _ _ h1)⟩, q ds w1 _ F1 R1 H1 o s1 i1 k1 (good_list h1 r)⟩) qx)
end
end G
end

section
set_option Elab.async false
set_option linter.all false
set_option maxRecDepth 100000
set_option maxHeartbeats 4000000
/-! ### min of a list of data -/
namespace G
open PySem PySem.Spec PyProof.Rows L2
theorem vals_at : ∀ {xs : List V} {us : List Value} {i : Nat} {u : Value}, Vals xs us → us[i]? = some u → ∃ x, xs[i]? = some x ∧ RelV x u
  | _, _, i, u, .nil, h => by simp at h
  | x :: _, _, 0, u, .cons r _, h => by
    simp at h
    subst h
    exact ⟨x, rfl, r⟩
  | _ :: _, _, i + 1, u, .cons _ r, h => by
    obtain ⟨y, h1, h2⟩ := vals_at (i := i) r (by simpa using h)
    exact ⟨y, by simpa using h1, h2⟩
theorem rpA_get {F : Hp} : ∀ {xs : List V} {ds : List PyData} {i : Nat} {x : V}, RpA F xs ds → xs[i]? = some x → ∃ d, d ∈ ds ∧ Rp F x d
  | _, _, i, x, .nil, h => by simp at h
  | y :: _, d :: _, 0, x, .cons r _, h => by
    simp at h
    subst h
    exact ⟨d, List.mem_cons_self, r⟩
  | _ :: _, _ :: _, i + 1, x, .cons _ r, h => by
    obtain ⟨d, h1, h2⟩ := rpA_get (i := i) r (by simpa using h)
    exact ⟨d, List.mem_cons_of_mem _ h1, h2⟩
theorem cr_minD {X : Cx} (hc : X.calm = true) : CallR X (.builtin "min") (fun vs H Q => ∃ (a : Addr) (xs : List V) (d : PyData) (ds : List PyData) (F : Hp), vs = [V.ref a] ∧ Same F H ∧ F a = some (.lst xs) ∧ RpA F xs (d :: ds) ∧ PySem.W.AlikeAll (d :: ds) ∧ X.A.units + 1 + PyData.depthAll (d :: ds) < cLine ∧
    ∀ v, Rp F v (PySem.W.minD d ds) → Q v H) := by
  intro pins s σ H vs us Q I r h
  obtain ⟨a, xs, d, ds, F, rfl, sm, ha, hx, al, dp, q⟩ := h
  obtain ⟨its, rv, hl, hz⟩ := I.list (SqL.of (K := X.K) (sm _ _ ha))
  rw [Vals.ref1 r]
  obtain ⟨as, ra⟩ := Dp.readsAll I (d :: ds) xs its (hx.dp sm) rv
  refine PySem.W.min_list_data (I.ok.hd hc) hl.isList (by simpa using ra) al dp fun i v h' tk bs hi rm hk => ?_
  have hi : its[i]? = some v := by simpa using hi
  obtain ⟨x, ex, rx⟩ := vals_at rv hi
  obtain ⟨e, he, rp⟩ := rpA_get hx ex
  obtain ⟨as2, r2⟩ := Dp.reads I e x v (rp.dp sm) rx
  have z := (Reads.unique (Reads.keeps hk r2) _ _ rm).1
  subst z
  exact ⟨x, H, I.kept hk, rx, q x rp⟩
/-- min(xs) -/
theorem ev_minD {X : Cx} {Ω : Om} {ρ : Rho} {e : Expr} {p pos : Pos} {d : PyData} {ds : List PyData} (hc : X.calm = true) (hm : X.mg "min" = none) (h : Ev X Ω ρ e (.list (d :: ds))) (al : PySem.W.AlikeAll (d :: ds)) (dp : X.A.units + 1 + PyData.depthAll (d :: ds) < cLine) (hg : Gl X "min" := by rfl)
    (he : starEach [e] X.env = (false, eval e X.env) :: starEach [] X.env := by rfl) (hpl : (backTo pos (starEach [] X.env)).any (·.1) = false := by rfl) : Ev X Ω ρ (.Call (.Name "min" p) [e] [] pos) (PySem.W.minD d ds) :=
  ev_callB (cr_minD hc) (fun F L R H vs k r Q q => by
    cases r with
    | cons r1 r2 =>
      cases r2
      cases r1 with
      | lst h1 h2 => exact ⟨_, _, d, ds, F, rfl, k.f, h1, h2, al, dp, fun v rv => q.here k rv⟩) hm (by decide +kernel) (ea_one h he) hg (by decide) (by decide) he hpl
end G
end

section
set_option Elab.async false
set_option linter.all false
set_option maxRecDepth 100000
set_option maxHeartbeats 4000000
/-! ### sorted(d.keys(), key=x.m), m a def of the program -/
namespace G
open PySem PySem.Spec PyProof.Rows L2
section
variable {X : Cx} {pins : List (Addr × Obj)} {σ : L2.St} {H : Hp} {s : Shared} {k : Nat} {q g a : Addr} {fd : FuncData} {ps : List Str} {sp : Sp}
/-- the call of a bound method from within two built-ins -/
theorem run_met {vs : List V} {us : List Value} {Q : VK} {E : Value → Shared → Prop} (F : FnOk X.prog X.w X.K X.mg X.base (L2.CX X.prog X.w) k g fd ps sp) (hr : Room (k + 2) X.A) (hb : Binds X.K fd ps []) (I : Inv X pins σ H s) (e : H q = some (.met g a)) (r : Vals vs us) (h : sp (.ref a :: vs) H Q fun _ _ _ => False) :
    wpAny (model X.prog X.w) X.A.in1.in1 (call (.ref q) us) (EP X pins σ Q) E s := by
  have r2 : Vals (.ref a :: vs) (.ref a :: us) := .cons rfl r
  have hl : (Value.ref a :: us).length = ps.length := by rw [← r2.length]; exact F.len _ _ _ _ h
  have hb2 := hb s (.ref a :: us) I.kIn (by rw [List.append_nil]; exact hl)
  rw [List.append_nil] at hb2
  refine wpAny_call (call_met I e (codeAny_mono (F.run X.A.in1.in1 X.stack s H ⟨.ref a :: us, []⟩ (.ref a :: us) (.ref a :: vs) Q _ hr.in1.in1 I.env0.in1.in1 hb2 r2 h) fun r s' hq => ?_))
  cases r with
  | error e =>
    obtain ⟨_, _, _, _, _, _, _, _, _, _, _, _, z⟩ := hq
    exact z.elim
  | ok fl =>
    cases fl with
    | ret u => exact I.after hq
    | next => exact False.elim hq
    | brk => exact False.elim hq
    | cont => exact False.elim hq
/-- an object let go -/
def gone (h : Heap) (a : Addr) : Heap := h.update a fun o => { o with data := .freed }
theorem gone_none (h : Heap) (a : Addr) : (gone h a).get? a = none := by
  unfold gone Heap.get? Heap.update
  cases e : h.objs[a]? with
  | none => simp [Array.getElem?_modify, e]
  | some o => simp [Array.getElem?_modify, e]
theorem gone_ne {h : Heap} {a b : Addr} (hb : b ≠ a) : (gone h a).get? b = h.get? b := Heap.get?_update_ne _ _ _ _ hb
theorem dp_each {X : Cx} {pins : List (Addr × Obj)} {σ : L2.St} {H : Hp} {s : Shared} (I : Inv X pins σ H s) : ∀ {ks : List V} {us : List Value} {ds : List PyData}, DpAll X.K H ks ds → Vals ks us → PySem.W.EachIs (fun v d => ∃ as, Reads s.heap v d as) us ds
  | _, _, _, .nil, .nil => .nil
  | _, _, _, .cons h r, .cons h' r' => .cons (Dp.reads I _ _ _ h h') (dp_each I r r')
/-- two objects beside all that is known, as they are to the letter -/
theorem pin_two {x y : Addr} {ox oy : Obj} (I : Inv X pins σ H s) (fx : FpOk X pins H x) (fy : FpOk X pins H y) (hx : s.heap.get? x = some ox) (hy : s.heap.get? y = some oy) (nx : ∀ v, ox.data ≠ .cell v) (ny : ∀ v, oy.data ≠ .cell v) : Inv X ((x, ox) :: (y, oy) :: pins) σ H s :=
  I.pins_of fun p hp => by
    rcases List.mem_cons.mp hp with rfl | hp
    · exact ⟨hx, fx.1, fx.2.1, fx.2.2.1, nx⟩
    rcases List.mem_cons.mp hp with rfl | hp
    · exact ⟨hy, fy.1, fy.2.1, fy.2.2.1, ny⟩
    · exact I.pin p (List.mem_append_right _ hp)
theorem sortBy_run {p d : Addr} {kvs : List (L2.Key × V)} {Q : VK} (kz : L2.Key → PyData) (J : List V → Hp → Prop) (hcalm : X.calm = true) (hu : X.A.units + 100 < cLine) (F : FnOk X.prog X.w X.K X.mg X.base (L2.CX X.prog X.w) k g fd ps sp) (hr : Room (k + 2) X.A) (hb : Binds X.K fd ps [])
    (I : Inv X pins σ H s) (hp : H p = some (KeysO p d)) (hd : Rd H d (.dK kvs)) (j0 : J [] H) (jq : ∀ ks H', J ks H' → H' q = some (.met g a))
    (al : PySem.W.AllAlike ((kvs.map (·.1)).map kz)) (so : PySem.W.Sortable ((kvs.map (·.1)).map kz)) (dp : ∀ c ∈ kvs.map (·.1), (kz c).depth ≤ 64)
    (step : ∀ (i : Nat) (c : L2.Key) (ks : List V) (H' : Hp), (kvs.map (·.1))[i]? = some c → ks.length = i → J ks H' → sp [.ref a, kV c] H' (fun v H2 => J (ks ++ [v]) H2) fun _ _ _ => False)
    (done : ∀ (ks : List V) (H' : Hp), J ks H' → ks.length = kvs.length → DpAll X.K H' ks ((kvs.map (·.1)).map kz) ∧ ∀ p', H' p' = none → Q (.ref p') (upd H' p' (.lst (((kvs.map (·.1)).mergeSort (PySem.W.dataLe false kz)).map kV)))) :
    wpAny (model X.prog X.w) X.A (call (.builtin "sorted") [.ref p] [(Str.ofString "key", .ref q)]) (EP X pins σ Q) X.xe s := by
  obtain ⟨hview, _⟩ := I.hok p _ hp
  obtain ⟨z, lo, vs, rel, dd⟩ := dk_rd I.hok hd
  obtain ⟨ep, hat⟩ := dd.dictAt
  have ekey : kvs.map (·.1) = vs.map (·.1) := rel.keys
  have elen : kvs.length = vs.length := rel.length
  refine call_function_entry_kw PyProof.Rows.kind_sorted PyProof.Rows.plain_sorted PyProof.Rows.entry_sorted (ksk_s1 _ _) ?_
  unfold Builtin.«sorted»
  apply wpAny_bind (m := checkCount "sorted" 1 1 _)
  apply wpAny_pure
  apply wpAny_bind
  refine PySem.W.kdu_collect (A := X.A.in1) (PySem.W.kdl_keys (knd := mixKind X.prog X.w) (kvs := vs) (ep := ep) (r := p) (d := d)) (I.ok.hd hcalm) ⟨hview, hat⟩ (by omega) fun h' tk acc keep items => ?_
  have J0 : Inv X pins σ H { s with heap := h', toks := tk } := I.kept keep
  have hv : Vals ((vs.map (·.1)).map kV) acc.toList := by
    rw [List.map_map]
    exact keys_at (by rw [Array.length_toList]; exact items.1) fun j u e => items.2 j u (by rw [← Array.getElem?_toList]; exact e)
  rw [← ekey] at hv
  have ev : PySem.W.EachIs (fun (u : Value) (c : L2.Key) => RelV (kV c) u) acc.toList (kvs.map (·.1)) := keys_each hv
  have al' : acc.toList.length = kvs.length := by
    have := ev.length
    rw [List.length_map] at this
    exact this
  have hz : acc.toList.length ≤ sizeLine := by omega
  apply wpAny_bind
  refine wpAny_newList ?_ hz
  have hoL : (h'.push (seqObj "list" acc.toList.toArray 0)).get? h'.objs.size = some (seqObj "list" acc.toList.toArray 0) := Heap.get?_push_size _ rfl
  generalize hvs : acc.toList = its at *
  refine wpAny_bind (wpAny_holding (wpAny_call_entry_kw slot_list_sort ⟨_, hoL, rfl⟩ entry_list_sort ?_ (ksk_l1 _ _)))
  rw [ksk_t1]
  unfold ksk_tree
  obtain ⟨e1, ho1⟩ : ∃ e1, ((h'.push (seqObj "list" its.toArray 0)).update h'.objs.size (Obj.mapSeq fun _ => (#[] : Array Value))).get? h'.objs.size = some (seqObj "list" #[] e1) := ⟨_, get?_update_seq hoL fun _ => #[]⟩
  refine wpAny_bind (listItems_at hoL rfl ?_)
  refine wpAny_bind (listUpdate_at hoL rfl ?_ (by rw [List.size_toArray]; exact hz) (Nat.zero_le _))
  refine wpAny_bind (seqEpoch_at ho1 rfl ?_)
  refine wpAny_bind (wpAny_newTuple ?_ (by show its.length ≤ _; exact hz))
  refine wpAny_bind (wpAny_newList ?_ (Nat.zero_le _))
  refine wpAny_holding ?_
  have hs2 : ((h'.push (seqObj "list" its.toArray 0)).update h'.objs.size (Obj.mapSeq fun _ => (#[] : Array Value))).objs.size = h'.objs.size + 1 := by rw [Heap.size_update, size_push']
  have k2 : ∀ b u, h'.get? b = some u → ((h'.push (seqObj "list" its.toArray 0)).update h'.objs.size (Obj.mapSeq fun _ => (#[] : Array Value))).get? b = some u := fun b u e => by
    rw [Heap.get?_update_ne _ _ _ _ (Nat.ne_of_lt (Heap.lt_size e))]
    exact Heap.get?_push_of_some _ e
  generalize hE : (h'.push (seqObj "list" its.toArray 0)).update h'.objs.size (Obj.mapSeq fun _ => (#[] : Array Value)) = h2 at *
  generalize hE3 : h2.push (seqObj "tuple" its.toArray 0) = h3 at *
  have k3 : ∀ b u, h2.get? b = some u → h3.get? b = some u := fun b u e => by rw [← hE3]; exact Heap.get?_push_of_some _ e
  have hs3 : h3.objs.size = h'.objs.size + 2 := by rw [← hE3, size_push', hs2]
  show wpAny _ _ _ _ _ { s with heap := h3.push (seqObj "list" #[] 0), toks := tk }
  have k4 : ∀ b u, h3.get? b = some u → (h3.push (seqObj "list" #[] 0)).get? b = some u := fun b u e => Heap.get?_push_of_some _ e
  have J4 : Inv X pins σ H { s with heap := h3.push (seqObj "list" #[] 0), toks := tk } := J0.kept (t' := tk) fun b u e => k4 b u (k3 b u (k2 b u e))
  have fA : ∀ H' : Hp, H' h'.objs.size = none → FpOk X pins H' h'.objs.size := fun H' e => J0.fpOk (Nat.le_refl _) e
  have fS : ∀ H' : Hp, H' h3.objs.size = none → FpOk X pins H' h3.objs.size := fun H' e => J0.fpOk (by show h'.objs.size ≤ _; omega) e
  have hne : h3.objs.size ≠ h'.objs.size := by omega
  generalize hkS : h3.objs.size = kS at *
  generalize haL : h'.objs.size = aL at *
  have HA : H aL = none := by rw [← haL]; exact J0.hok.fresh (Nat.le_refl _)
  have HS : H kS = none := J0.hok.fresh (by show h'.objs.size ≤ kS; omega)
  have gS4 : (h3.push (seqObj "list" #[] 0)).get? kS = some (seqObj "list" #[] 0) := by rw [← hkS]; exact Heap.get?_push_size _ rfl
  have gA4 : (h3.push (seqObj "list" #[] 0)).get? aL = some (seqObj "list" #[] e1) := k4 _ _ (k3 _ _ ho1)
  generalize hE4 : h3.push (seqObj "list" #[] 0) = h4 at *
  unfold ksk_rest
  refine wpAny_bind (wpAny_rule ?_)
  first
    | rw [List.forIn_toArray]
    | (rw [← Array.forIn_toList]; simp only [List.toList_toArray])
    | rw [← Array.forIn_toList]
  refine wpAny_bind (ksk_fold (fun i s' => ∃ ks H' kA e, Inv X ((aL, seqObj "list" #[] e1) :: (kS, seqObj "list" kA e) :: pins) σ H' s' ∧ Vals ks kA.toList ∧ ks.length = i ∧ J ks H') its 0 _
    ⟨[], H, #[], 0, pin_two J4 (fA H HA) (fS H HS) gA4 gS4 (fun v z => by cases z) (fun v z => by cases z), .nil, rfl, j0⟩ ?stp ?dn)
  case stp =>
    rintro j x s' hx ⟨ks, H', kA, e, I', rk, hkl, hJ⟩
    rw [Nat.zero_add] at hkl ⊢
    obtain ⟨c, hc, rc⟩ : ∃ c, (kvs.map (·.1))[j]? = some c ∧ RelV (kV c) x := by
      have hj : j < its.length := (List.getElem?_eq_some_iff.mp hx).1
      have hj2 : j < (kvs.map (·.1)).length := by rw [List.length_map]; omega
      refine ⟨_, List.getElem?_eq_getElem hj2, ?_⟩
      have hz : (x, (kvs.map (·.1))[j]) ∈ its.zip (kvs.map (·.1)) := List.mem_of_getElem? (i := j) (by rw [List.getElem?_zip_eq_some]; exact ⟨hx, List.getElem?_eq_getElem hj2⟩)
      exact ev.zip _ hz
    refine wpAny_bind (wpAny_attempt (wpAny_mono (run_met (E := fun _ _ => False) F hr hb I' (jq ks H' hJ) (.cons rc .nil) (step j c ks H' hc hkl hJ)) (fun u s2 he => ?_) fun _ _ z => z.elim))
    obtain ⟨v, H2, I2, rv, hJ2⟩ := he
    have pA := I2.pin (aL, seqObj "list" #[] e1) (List.mem_append_right _ List.mem_cons_self)
    have pS := I2.pin (kS, seqObj "list" kA e) (List.mem_append_right _ (List.mem_cons_of_mem _ List.mem_cons_self))
    have hks : kA.size = j := by
      have h1 : ks.length = kA.toList.length := rk.length
      have h2 : kA.toList.length = kA.size := Array.length_toList
      omega
    have hjl : j < its.length := (List.getElem?_eq_some_iff.mp hx).1
    try dsimp only
    refine wpAny_bind (listUpdate_at pS.1 rfl ?_ (by omega) (by rw [Array.size_push]; omega))
    obtain ⟨c2, hc2⟩ : ∃ c2, (s2.heap.update kS (Obj.mapSeq (·.push u))).get? kS = some (seqObj "list" (kA.push u) c2) := ⟨_, get?_update_seq pS.1 (·.push u)⟩
    have I3 : Inv X pins σ H2 s2 := I2.pins_of fun p hp => I2.pin p (List.mem_append_right _ (List.mem_cons_of_mem _ (List.mem_cons_of_mem _ hp)))
    have I4 : Inv X pins σ H2 { s2 with heap := s2.heap.update kS (Obj.mapSeq (·.push u)) } := I3.turnedL (t' := s2.toks) (ch := [kS]) (fun b o hb e => by rw [Heap.get?_update_ne _ _ _ _ (fun z => hb (by simp [z]))]; exact e) fun b hb => by
      have : b = kS := by simpa using hb
      rw [this]
      exact fS H2 pS.2.1
    refine wpAny_pure ⟨rfl, ks ++ [v], H2, kA.push u, c2, pin_two I4 (fA H2 pA.2.1) (fS H2 pS.2.1) ?_ hc2 (fun v z => by cases z) (fun v z => by cases z), ?_, by rw [List.length_append, hkl]; rfl, hJ2⟩
    · show (s2.heap.update kS (Obj.mapSeq (·.push u))).get? aL = _
      rw [Heap.get?_update_ne _ _ _ _ (Ne.symm hne)]
      exact pA.1
    · rw [Array.toList_push]
      exact rk.append (.cons rv .nil)
  case dn =>
    rintro s' ⟨ks, H', kA, e, I', rk, hkl, hJ⟩
    rw [Nat.zero_add] at hkl
    have pA := I'.pin (aL, seqObj "list" #[] e1) (List.mem_append_right _ List.mem_cons_self)
    have pS := I'.pin (kS, seqObj "list" kA e) (List.mem_append_right _ (List.mem_cons_of_mem _ List.mem_cons_self))
    obtain ⟨hD, hQ⟩ := done ks H' hJ (by omega)
    have hE5 : PySem.W.EachIs (fun v d => ∃ as, Reads s'.heap v d as) kA.toList ((kvs.map (·.1)).map kz) := dp_each I' hD rk
    have hks : kA.size = its.length := by
      have h1 : ks.length = kA.toList.length := rk.length
      have h2 : kA.toList.length = kA.size := Array.length_toList
      omega
    have I3 : Inv X pins σ H' s' := I'.pins_of fun p hp => I'.pin p (List.mem_append_right _ (List.mem_cons_of_mem _ (List.mem_cons_of_mem _ hp)))
    refine wpAny_bind (listItems_at pS.1 rfl ?_)
    refine PySem.W.keyH_end (κ := PySem.W.dataKind s'.heap ((kvs.map (·.1)).map kz)) (h₁ := gone s'.heap kS) (fun b o hb e => ?_) (gone_none _ _) pS.1 pA.1 hne (PySem.W.SortsAt.data hE5 al so fun d hd => ?_) hks hz fun h9 tk9 c9 k9 n9 => ⟨_, rfl, wpAny_pure ⟨_, rfl, ?_⟩⟩
    · by_cases hbk : b = kS
      · subst hbk
        rw [gone_none] at e
        cases e
      · rw [gone_ne hbk] at e
        exact e
    · obtain ⟨c, hc, rfl⟩ := List.mem_map.mp hd
      have := dp c hc
      show X.A.units + 1 + 1 + _ < cLine
      omega
    · have eo := PySem.W.keyedOut_each (rev := false) kz ⟨s'.heap, kA.toList, al, rfl, hE5⟩ ev
      have ro := keys_back eo
      have I4 : Inv X pins σ H' { s' with heap := h9, toks := tk9 } := I3.turnedL (t' := tk9) (ch := [aL, kS]) (fun b o hb e => k9 b o (fun z => hb (by simp [z])) (by rw [gone_ne (fun z => hb (by simp [z]))]; exact e)) fun b hb => by
        rcases List.mem_cons.mp hb with rfl | hb
        · exact fA H' pA.2.1
        · have : b = kS := by simpa using hb
          rw [this]
          exact fS H' pS.2.1
      have hlen : (((kvs.map (·.1)).mergeSort (PySem.W.dataLe false kz)).map kV).length ≤ sizeLine := by
        rw [List.length_map, List.length_mergeSort, List.length_map]
        omega
      refine ⟨.ref aL, _, I4.take (t' := tk9) (o := .lst (((kvs.map (·.1)).mergeSort (PySem.W.dataLe false kz)).map kV)) (fun b o _ e => e) (fA H' pA.2.1) (show ObjOk X.prog X.w _ _ _ (.lst _) from ⟨hlen, _, c9, ro, n9⟩), rfl, hQ aL pA.2.1⟩
end
end G
namespace G
open PySem PySem.Spec PyProof.Rows L2 He
/-! ### x.m as a value -/
def tBnd (C : Addr) (m : Str) (g : Addr) (ta : TE) : TE := fun σ H Q => ta σ H fun x H1 => ∃ a dx fs, x = .ref a ∧ H1 a = some (.ins C dx fs) ∧ fs.lookup m = none ∧ ∀ p, H1 p = none → Q (.ref p) (upd H1 p (.met g a))
theorem pe_bnd {X : Cx} {o : Expr} {ta : TE} {C g : Addr} {m : Str} {pos : Pos} (he : PE X o ta) (c : Cls X.K C) (k : BMeth X.K C m g) (hb : attributeBase o m X.env (eval o X.env) = eval o X.env := by rfl) : PE X (.Attribute o m pos) (tBnd C m g ta) := by
  refine ⟨fun pins s σ H Q I h => ?_⟩
  refine attr_of hb (thn (he.run pins s σ H _ I h) fun u s1 ⟨x, H1, I1, rx, a, dx, fs, ex, ea, l, q⟩ => ?_)
  subst ex
  exact op_getbound I1 ea c k l rx q
theorem bmB_ok {K : PySem.W.Frag} {C g : Addr} {m : Str} (h : bmB K C m = true) (t : Meth K C m g) : BMeth K C m g := by
  unfold bmB at h
  rw [t.at_] at h
  simp only [Bool.and_eq_true] at h
  obtain ⟨h1, h2, h3, h4⟩ := h
  exact ⟨t, eqO_ok h1, of_decide_eq_true h2, by simpa using h4, h3⟩
def BndT (K : PySem.W.Frag) (C : Addr) (m : Str) : Prop := ∀ g, Meth K C m g → BMeth K C m g
def intsK (ns : List Int) : List L2.Key := ns.map Sum.inl
theorem rpA_ints {F : Hp} : ∀ l : List Int, RpA F (l.map V.int) (l.map PyData.int)
  | [] => .nil
  | x :: l => .cons (.int x) (rpA_ints l)
section
variable {X : Cx} {CA : Str → Addr} {R0 : Hp} {ρ : Rho} {w : List Thing} {a o : Expr} {pos p apos cpos bpos kpos : Pos} {q ia C : Addr} {kss : List (L2.Key × Sv)} {k : Nat} {m : Str} {Rl : List Sv → List Thing → ResS → Prop} {fns : List Str}
theorem ev_sortBy (ns : List Int) (kz : Int → PyData) (hc : X.calm = true) (hr : Room (k + 2) X.A) (hm : X.mg "sorted" = none) (ha : EvV X ((ThW R0).om w) ρ a (.raw (.ref q))) (hd : DicR kdK w q kss) (hk : kss.map (·.1) = intsK ns)
    (ho : EvV X ((ThW R0).om w) ρ o (.raw (.ref ia))) (hi : IsI w ia C fns) (hmf : m ∉ fns) (c : Cls X.K C) (fn : FnM X.prog X.w X.K X.mg X.base k C m (lift CA (pmW (rdo Rl)))) (bm : BndT X.K C m)
    (hR : ∀ n ∈ ns, Rl [.raw (.ref ia), .d (.int n)] w (.ok (.d (kz n)))) (al : PySem.W.AllAlike (ns.map kz)) (so : PySem.W.Sortable (ns.map kz)) (dp : ∀ n ∈ ns, (kz n).depth ≤ 64)
    (hg : Gl X "sorted" := by rfl) (hbase : attributeBase a "keys" X.env (eval a X.env) = eval a X.env := by rfl) (hbase2 : attributeBase o m X.env (eval o X.env) = eval o X.env := by rfl) (hline : (apos.endLine == cpos.line) = true := by rfl)
    (hs : starEach [.Call (.Attribute a "keys" apos) [] [] cpos] X.env = (false, eval (.Call (.Attribute a "keys" apos) [] [] cpos) X.env) :: starEach [] X.env := by rfl)
    (he : backTo pos (starEach [.Call (.Attribute a "keys" apos) [] [] cpos] X.env) = (false, eval (.Call (.Attribute a "keys" apos) [] [] cpos) X.env) :: backTo pos (starEach [] X.env) := by rfl) (hpl : (backTo pos (starEach [.Call (.Attribute a "keys" apos) [] [] cpos] X.env)).any (·.1) = false := by rfl)
    (hall : (backToKw pos (keywordEach [⟨some (Str.ofString "key"), .Attribute o m bpos, kpos⟩] X.env)).all (·.1.isSome) = true := by rfl) (hnone : (backToKw pos (keywordEach [⟨some (Str.ofString "key"), .Attribute o m bpos, kpos⟩] X.env)).any (·.1.isNone) = false := by rfl)
    (hks : (backToKw pos (keywordEach [⟨some (Str.ofString "key"), .Attribute o m bpos, kpos⟩] X.env)).filterMap (·.1) = [Str.ofString "key"] := by rfl) :
    Ev X ((ThW R0).om w) ρ (.Call (.Name "sorted" p) [.Call (.Attribute a "keys" apos) [] [] cpos] [⟨some (Str.ofString "key"), .Attribute o m bpos, kpos⟩] pos) (.list ((ns.mergeSort (PySem.W.dataLe false kz)).map PyData.int)) := fun F L R H σ g' om kk Q z => by
  obtain ⟨g, fd, ps, fo, mt, hb⟩ := fn.ex
  have hu := u100 hr
  let kz' : L2.Key → PyData := fun c => match c with | .inl i => kz i | .inr _ => .none
  have hkz : (intsK ns).map kz' = ns.map kz := by
    unfold intsK
    rw [List.map_map]
    rfl
  have crk : CallRK X (.builtin "sorted") [Str.ofString "key"] (fun xs zs H Q => ∃ (p d q : Addr) (kvs : List (L2.Key × V)) (J : List V → Hp → Prop), xs = [.ref p] ∧ zs = [.ref q] ∧ kvs.map (·.1) = intsK ns ∧ H p = some (KeysO p d) ∧ Rd H d (.dK kvs) ∧ J [] H ∧ (∀ ks H', J ks H' → H' q = some (.met g ia)) ∧
      (∀ (i : Nat) (c : L2.Key) (ks : List V) (H' : Hp), (kvs.map (·.1))[i]? = some c → ks.length = i → J ks H' → lift CA (pmW (rdo Rl)) [.ref ia, kV c] H' (fun v H2 => J (ks ++ [v]) H2) fun _ _ _ => False) ∧
      (∀ (ks : List V) (H' : Hp), J ks H' → ks.length = kvs.length → DpAll X.K H' ks ((kvs.map (·.1)).map kz') ∧ ∀ p', H' p' = none → Q (.ref p') (upd H' p' (.lst (((kvs.map (·.1)).mergeSort (PySem.W.dataLe false kz')).map kV))))) := by
    intro pins s σ H xs zs us ws Q I r rz h
    obtain ⟨p, d, q, kvs, J, rfl, rfl, e1, h1, h2, h3, h4, h5, h6⟩ := h
    obtain rfl := Vals.ref1 r
    obtain rfl := Vals.ref1 rz
    exact sortBy_run kz' J hc hu fo hr hb I h1 h2 h3 h4 (by rw [e1, hkz]; exact al) (by rw [e1, hkz]; exact so) (fun c hc => by
      rw [e1] at hc
      obtain ⟨n, hn, rfl⟩ := List.mem_map.mp hc
      exact dp n hn) h5 h6
  refine toE (pe_callBK crk hg hm (by decide +kernel) (pa_cons (pe_keysV (pe_w a) hbase hline) pa_nil hs) (pk_cons (pe_bnd (pe_w o) c (bm g mt) hbase2) pk_nil) (by decide) (by decide) he hpl hall hnone hks) ?_
  refine ha F L R H σ g' om kk _ fun v F1 R1 H1 s1 o1 k1 r1 => ?_
  cases r1
  obtain ⟨kvs, h1, h2⟩ := hd F1 R0 R1 H1 o1 k1.f k1.r
  have ek : kvs.map (·.1) = intsK ns := h2.keys.trans hk
  refine ⟨q, kvs, rfl, h1, fun p hp => ?_⟩
  have k2 := k1.newF (o := KeysO p q) hp
  have s2 : Same F1 (upd F1 p (KeysO p q)) := same_new (k1.f.free hp)
  refine ho _ L R1 _ σ (g'.mono (s1.trans s2)) (Sep.mono s2 o1) k2 _ fun v3 F3 R3 H3 s3 o3 k3 r3 => ?_
  cases r3
  obtain ⟨dx, fs, hins, hfs⟩ := hi F3 R0 R3 H3 o3 k3.f k3.r
  refine ⟨ia, dx, fs, rfl, hins, lookup_none (by rw [hfs]; exact hmf), fun p4 hp4 => ?_⟩
  have k4 := k3.newF (o := .met g ia) hp4
  have s4 : Same F3 (upd F3 p4 (.met g ia)) := same_new (k3.f.free hp4)
  have h13 : (upd F3 p4 (.met g ia)) p = some (KeysO p q) := s4 _ _ (s3 _ _ upd_same)
  obtain ⟨kvs3, hd3, hr3⟩ := hd (upd F3 p4 (.met g ia)) R0 R3 (upd H3 p4 (.met g ia)) (Sep.mono s4 o3) k4.f k4.r
  have ek3 : kvs3.map (·.1) = intsK ns := hr3.keys.trans hk
  refine ⟨p, q, p4, kvs3, fun ks H' => ∃ F' R', Same (upd F3 p4 (.met g ia)) F' ∧ Sep F' R0 w R' ∧ Ok F' L R' H' ∧ RpA F' ks ((ns.map kz).take ks.length), rfl, rfl, ek3, k4.f _ _ h13, hd3, ⟨_, R3, Same.refl _, Sep.mono s4 o3, k4, .nil⟩, ?_, ?_, ?_⟩
  · rintro ks H' ⟨F', R', sF, _, kF, _⟩
    exact kF.f _ _ (sF _ _ upd_same)
  · rintro i cc ks H' hi' hl ⟨F', R', sF, oF, kF, rF⟩
    rw [ek3] at hi'
    unfold intsK at hi'
    rw [List.getElem?_map] at hi'
    cases hn : ns[i]? with
    | none =>
      rw [hn] at hi'
      cases hi'
    | some n =>
      rw [hn] at hi'
      cases hi'
      have hmem : n ∈ ns := List.mem_of_getElem? hn
      refine lift_w (σ := σ) (Wx := fun _ _ _ _ => False) (O := fun sv w' => sv = .d (kz n) ∧ w' = w) (Ox := fun _ _ => False) kF oF (svs := [.raw (.ref ia), .d (.int n)]) (.cons ⟨rfl, rfl⟩ (.cons ⟨show RpS F' L (kV (.inl n)) (.d (.int n)) from .int n, rfl⟩ .nil)) ⟨_, hR n hmem, rfl, rfl⟩ ?_ (fun _ _ _ _ _ z => z.elim)
      rintro sv w' v F5 R5 H5 ⟨rfl, rfl⟩ s5 o5 r5 _ k5
      refine ⟨F5, R5, sF.trans s5, o5, k5, ?_⟩
      have hlt : i < (ns.map kz).length := by rw [List.length_map]; exact (List.getElem?_eq_some_iff.mp hn).1
      have et : (ns.map kz).take (ks ++ [v]).length = (ns.map kz).take ks.length ++ [kz n] := by
        rw [List.length_append, List.length_singleton, hl, List.take_succ_eq_append_getElem hlt]
        congr 2
        rw [List.getElem_map]
        congr 1
        exact (List.getElem?_eq_some_iff.mp hn).2
      rw [et]
      exact RpA.append (.cons r5 .nil) (rF.mono s5)
  · rintro ks H' ⟨F', R', sF, oF, kF, rF⟩ hl
    have hl2 : kvs3.length = ns.length := by
      have := congrArg List.length ek3
      unfold intsK at this
      rwa [List.length_map, List.length_map] at this
    have e5 : (ns.map kz).take ks.length = ns.map kz := List.take_of_length_le (by rw [List.length_map]; omega)
    rw [e5] at rF
    refine ⟨by rw [ek3, hkz]; exact rF.dp kF.f, fun p6 hp6 => ?_⟩
    have em : ((kvs3.map (·.1)).mergeSort (PySem.W.dataLe false kz')).map kV = (ns.mergeSort (PySem.W.dataLe false kz)).map V.int := by
      have e1 : (ns.mergeSort (PySem.W.dataLe false kz)).map (Sum.inl : Int → L2.Key) = (intsK ns).mergeSort (PySem.W.dataLe false kz') := List.map_mergeSort fun x _ y _ => rfl
      rw [ek3, ← e1, List.map_map]
      rfl
    rw [em]
    have k7 := kF.newF (o := .lst ((ns.mergeSort (PySem.W.dataLe false kz)).map V.int)) hp6
    have s7 := same_new (o := HO.lst ((ns.mergeSort (PySem.W.dataLe false kz)).map V.int)) (kF.f.free hp6)
    refine z (.ref p6) _ R' _ (((((s1.trans s2).trans s3).trans s4).trans sF).trans s7) (Sep.mono s7 oF) k7 (.lst upd_same ?_)
    exact rpA_ints _
end
end G
end

section
set_option Elab.async false
set_option linter.all false
set_option maxRecDepth 100000
set_option maxHeartbeats 4000000
/-! ### targets that take any value; comprehensions over d.values(), d.keys(); d.pop(k) -/
namespace G
open PySem PySem.Spec PyProof.Rows L2
def TgS (X : Cx) (vs : List Nat) (tg : Expr) (sv : Sv) (ρ ρ' : Rho) : Prop := ∀ F L R H σ v, Sg F L σ ρ → Ok F L R H → RpS F L v sv → isOwn sv = false → ∀ Q : L2.St → Hp → Prop, (∀ σ', Sg F L σ' ρ' → wipe σ' vs = wipe σ vs → Q σ' H) → wG X tg v σ H Q
section
variable {X : Cx} {ρ ρ' : Rho} {tg : Expr} {pos : Pos} {d : PyData} {sv : Sv} {vs : List Nat}
theorem TgD.s (h : TgD X vs tg d ρ ρ') : TgS X vs tg (.d d) ρ ρ' := fun F L R H σ v g k r _ Q q => h F L R H σ v g k r Q q
theorem tg_nameS (i : Nat) {x : Str} (hN : X.N.Nodup) (hv : i ∈ vs) (hi : X.N[i]? = some x := by rfl) (hx : Loc X.env.scope x := by first | exact Or.inl rfl | exact Or.inr rfl) (hf : X.fn x = true ∨ X.env.scope.names.lookup x = some .local := by first | exact .inl rfl | exact .inr rfl) :
    TgS X vs (.Name x pos) sv ρ (ρ.set i (some sv)) := fun F L R H σ v g k r n Q q => toG (pg_name hN hi hx hf) (q _ (g.set i r n) (wipe_set hv))
end
/-- what a walk over a locked dict gives: its keys, or its values -/
structure WalkD (X : Cx) (tg iter a : Expr) (sel : L2.Key → V → V) (selS : L2.Key × Sv → Sv) where
  J : Addr → Obj → List (L2.Key × V) → It
  pi : PI X tg iter fun σ H R => wE X a σ H fun x H1 => ∃ d o kvs, x = .ref d ∧ H1 d = some (.frz o (.dK kvs)) ∧ R (J d o kvs) H1
  go : ∀ d o kvs i H, H d = some (.frz o (.dK kvs)) → i < kvs.length → (J d o kvs).go i H
  yl : ∀ d o kvs i H x H', (J d o kvs).yld i H x H' → H' = H ∧ ∃ k v, kvs[i]? = some (k, v) ∧ x = sel k v
  st : ∀ d o kvs i H, H d = some (.frz o (.dK kvs)) → kvs.length ≤ i → (J d o kvs).stop i H
  rp : ∀ F L k v sv, RpS F L v sv → isOwn sv = false → RpS F L (sel k v) (selS (k, sv)) ∧ isOwn (selS (k, sv)) = false
def walkV {X : Cx} {tg a : Expr} {apos cpos : Pos} (hbase : attributeBase a "values" X.env (eval a X.env) = eval a X.env := by rfl) (hline : (apos.endLine == cpos.line) = true := by rfl) : WalkD X tg (.Call (.Attribute a "values" apos) [] [] cpos) a (fun _ v => v) (·.2) where
  J := Itd
  pi := pi_values (pe_w a) hbase hline
  go := fun d o kvs i H h hi => ⟨h, hi⟩
  yl := fun d o kvs i H x H' h => by
    obtain ⟨e, k, h⟩ := h
    exact ⟨e, k, x, h, rfl⟩
  st := fun d o kvs i H h hi => ⟨h, hi⟩
  rp := fun F L k v sv r n => ⟨r, n⟩
theorem rp_kV {F : Hp} : ∀ k : L2.Key, Rp F (kV k) (keyD k)
  | .inl i => .int i
  | .inr x => .str x
def walkK {X : Cx} {tg a : Expr} {apos cpos : Pos} (hbase : attributeBase a "keys" X.env (eval a X.env) = eval a X.env := by rfl) (hline : (apos.endLine == cpos.line) = true := by rfl) : WalkD X tg (.Call (.Attribute a "keys" apos) [] [] cpos) a (fun k _ => kV k) (fun p => .d (keyD p.1)) where
  J := Itk
  pi := pi_keysM (pe_w a) hbase hline
  go := fun d o kvs i H h hi => ⟨h, hi⟩
  yl := fun d o kvs i H x H' h => by
    obtain ⟨e, k, v, h, ex⟩ := h
    exact ⟨e, k, v, h, ex⟩
  st := fun d o kvs i H h hi => ⟨h, hi⟩
  rp := fun F L k v sv r n => ⟨rp_kV k, rfl⟩
theorem set_back {α : Type} {w : List α} {i : Nat} {t u : α} (h : w[i]? = some t) : (w.set i u).set i t = w := by
  rw [List.set_set]
  obtain ⟨hi, rfl⟩ := List.getElem?_eq_some_iff.mp h
  exact List.set_getElem_self hi
section
variable {X : Cx} {CA : Str → Addr} {R0 : Hp} {ρ : Rho} {w : List Thing} {elt tg iter a : Expr} {ifs : List Expr} {scope : Scope} {own : List (Str × Nat)} {pos : Pos} {sel : L2.Key → V → V} {selS : L2.Key × Sv → Sv}
theorem rpk_at {F : Hp} {kvs : List (L2.Key × V)} : ∀ {kss : List (L2.Key × Sv)} {i : Nat} {k : L2.Key} {v : V}, RpK F kvs kss → kvs[i]? = some (k, v) → ∃ sv, kss[i]? = some (k, sv) ∧ RpS F no v sv ∧ isOwn sv = false := by
  intro kss i k v r h
  induction r generalizing i with
  | nil => simp at h
  | cons h1 r1 ih =>
    rename_i p q l m
    obtain ⟨e1, e2, e3⟩ := h1
    cases i with
    | zero =>
      simp only [List.getElem?_cons_zero, Option.some.injEq] at h
      subst h
      refine ⟨q.2, ?_, e2, e3⟩
      rw [List.getElem?_cons_zero]
      have : q.1 = k := e1.symm
      rw [← this]
    | succ i =>
      rw [List.getElem?_cons_succ] at h
      rw [List.getElem?_cons_succ]
      exact ih h
/-- [elt for tg in d.values() if ..] -/
theorem ev_lcD {kss : List (L2.Key × Sv)} {t : Thing} {lk : Obj → List (L2.Key × V) → Thing} {d : Addr} (W : WalkD X tg iter a sel selS) (p : L2.Key × Sv → Bool) (f : L2.Key × Sv → PyData) (rt : L2.Key × Sv → Rho) (i : Nat) (hc : X.calm = true) (hN : X.N.Nodup) (ok : BlkOk X.N X.env.scope scope own) (hw : w[i]? = some t) (K : DicL t lk d kss) (hz : kss.length < sizeLine)
    (ha : ∀ od kvs, EvV X ((ThW R0).om (w.set i (lk od kvs))) ρ a (.raw (.ref d)))
    (hg : ∀ s H C cl fp, ∀ x ∈ kss, TgS (Bk X scope s H C cl fp) (own.map (·.2)) tg (selS x) (wipeR ρ (own.map (·.2))) (rt x))
    (ht : ∀ od kvs s H C cl fp, ∀ x ∈ kss, EvTs (Bk X scope s H C cl fp) ((ThW R0).om (w.set i (lk od kvs))) (rt x) ifs (p x))
    (he : ∀ od kvs s H C cl fp, ∀ x ∈ kss, p x = true → Ev (Bk X scope s H C cl fp) ((ThW R0).om (w.set i (lk od kvs))) (rt x) elt (f x))
    (hs : ∀ x, foldedSetIterable iter X.env x = pure x := by intro _; rfl) : Ev X ((ThW R0).om w) ρ (.ListComp elt [⟨tg, iter, ifs, 0⟩] scope pos) (.list ((kss.filter p).map f)) := fun F L R H σ g om k Q q => by
  obtain ⟨M, hP, hMR, hU⟩ := Sep.upd om hw
  obtain ⟨kvs, hMd, hrp⟩ := K.is F M hP
  have hdR := hMR _ _ hMd
  have hlen := hrp.len
  refine toE (pe_lock (pe_lc hc hN W.pi ok (fun s H1 C cl fp => ⟨fun pins s' σ H v u Q I r (h : ∀ s H1 C cl fp, wG (Bk X scope s H1 C cl fp) tg v σ H Q) => (h s H1 C cl fp).run pins s' u I r⟩) (fun s H1 C cl fp => ⟨fun pins s' σ H Q I (h : ∀ s H1 C cl fp, wTs (Bk X scope s H1 C cl fp) ifs σ H Q) => (h s H1 C cl fp).run pins s' I⟩) (fun s H1 C cl fp => ⟨fun pins s' σ H Q I (h : ∀ s H1 C cl fp, wE (Bk X scope s H1 C cl fp) elt σ H Q) => (h s H1 C cl fp).run pins s' I⟩) hs)) ⟨d, .dK kvs, k.r _ _ hdR, trivial, fun od => ?_⟩
  have i1 : Sep F R0 (w.set i (lk od kvs)) (upd R d (.frz od (.dK kvs))) := hU F d _ (lk od kvs) (Same.refl _) (.inl (by rw [hMd]; simp)) (K.lock od kvs F M hP hMd)
  have k1 : Ok F L (upd R d (.frz od (.dK kvs))) (upd H d (.frz od (.dK kvs))) := k.setR hdR
  have hiw : (w.set i (lk od kvs))[i]? = some (lk od kvs) := getS _ (List.getElem?_eq_some_iff.mp hw).1
  have opens : ∀ {F2 : Hp} {L2' R2 H2 : Hp}, Sep F2 R0 (w.set i (lk od kvs)) R2 → Ok F2 L2' R2 H2 → H2 d = some (.frz od (.dK kvs)) ∧ Sep F2 R0 w (upd R2 d (.dK kvs)) ∧ Ok F2 L2' (upd R2 d (.dK kvs)) (upd H2 d (.dK kvs)) ∧ RpK F2 kvs kss := fun hS hk => by
    obtain ⟨M2, hP2, hMR2, hU2⟩ := Sep.upd hS hiw
    obtain ⟨hdM, hrp2⟩ := K.lis od kvs _ M2 hP2
    have h2 := hU2 _ d (.dK kvs) t (Same.refl _) (.inl (by rw [hdM]; simp)) (K.free od kvs _ M2 hP2)
    rw [set_back hw] at h2
    exact ⟨hk.r _ _ (hMR2 _ _ hdM), h2, hk.setR (hMR2 _ _ hdM), hrp2⟩
  refine ha od kvs F L _ _ σ g i1 k1 _ (fun v F1 R1 H1 s1 o1 k1' r1 => ?_)
  cases r1
  have hdH := (opens o1 k1').1
  refine ⟨d, od, kvs, rfl, hdH, fun D hD => ?_⟩
  refine ⟨fun n m H' => m = kvs.length - n ∧ n ≤ kvs.length ∧ ∃ F' R' vs, Same F1 F' ∧ F' D = none ∧ RpA F' vs (((kss.take n).filter p).map f) ∧ Sep F' R0 (w.set i (lk od kvs)) R' ∧ Ok F' (upd L D (.lst vs)) R' H', ⟨kvs.length, by simp, Nat.zero_le _, F1, R1, [], Same.refl _, k1'.f.free hD, .nil, o1, k1'.newL hD⟩, ?_⟩
  rintro n m H' ⟨rfl, hile, F', R', vs, s', hF', rvs, o', k'⟩
  have sL : ∀ o : HO, Same L (upd L D o) := fun o => same_new (k1'.l.free hD)
  obtain ⟨hfr, a2, a3, hrp'⟩ := opens o' k'
  by_cases hlt : n < kvs.length
  · refine .inr ⟨W.go d od kvs n H' hfr hlt, fun H2 => ∃ F' R' vs, Same F1 F' ∧ F' D = none ∧ RpA F' vs (((kss.take (n + 1)).filter p).map f) ∧ Sep F' R0 (w.set i (lk od kvs)) R' ∧ Ok F' (upd L D (.lst vs)) R' H2, fun H2 h => ⟨kvs.length - (n + 1), by omega, rfl, hlt, h⟩, ?_⟩
    intro x H2 hy
    obtain ⟨e2, kk, vv, hkv, ex⟩ := W.yl d od kvs n H' x H2 hy
    subst e2 ex
    obtain ⟨sv, hks, hrs, hos⟩ := rpk_at hrp' hkv
    have hltk : n < kss.length := (List.getElem?_eq_some_iff.mp hks).1
    have hxn : kss[n] = (kk, sv) := (List.getElem?_eq_some_iff.mp hks).2
    have hxm : (kk, sv) ∈ kss := hxn ▸ List.getElem_mem _
    obtain ⟨rsel, osel⟩ := W.rp F' (upd L D (.lst vs)) kk vv sv (RpS.anyL hos hrs) hos
    intro s5 H5 C5 cl5 fp5
    have gL : Sg F' (upd L D (.lst vs)) (wipe σ (own.map (·.2))) (wipeR ρ (own.map (·.2))) := ((g.mono (s1.trans s')).wipe (own.map (·.2))).wider (sL _)
    refine hg s5 H5 C5 cl5 fp5 (kk, sv) hxm F' _ R' H2 _ _ gL k' rsel osel _ fun σ2 g2 w2 => ⟨by rw [w2]; exact wipe_twice _ _, ?_⟩
    intro s7 H7 C7 cl7 fp7
    refine ht od kvs s7 H7 C7 cl7 fp7 (kk, sv) hxm F' _ R' H2 σ2 g2 o' k' _ fun F2 R2 H3 s2 o2 k2 => ?_
    cases hp : p (kk, sv) with
    | true =>
      rw [if_pos rfl]
      intro s6 H6 C6 cl6 fp6
      refine he od kvs s6 H6 C6 cl6 fp6 (kk, sv) hxm hp F2 _ R2 H3 σ2 (g2.mono s2) o2 k2 _ fun y F3 R3 H4 s3 o3 k3 r3 => ?_
      refine ⟨vs, k3.l D _ upd_same, ?_, F3, R3, vs ++ [y], (s'.trans s2).trans s3, ?_, ?_, o3, ?_⟩
      · rw [rvs.length, List.length_map]
        have h1 := List.length_filter_le p (kss.take n)
        rw [List.length_take] at h1
        omega
      · exact none_l k3.fl (show (upd L D (.lst vs)) D = some _ from upd_same)
      · rw [List.take_succ_eq_append_getElem hltk, List.filter_append, List.map_append, hxn, List.filter_cons, if_pos hp]
        exact RpA.append (.cons r3 .nil) (rvs.mono (s2.trans s3))
      · have := k3.setL (o' := .lst (vs ++ [y])) (show (upd L D (.lst vs)) D = some _ from upd_same)
        rw [upd_upd] at this
        exact this
    | false =>
      rw [if_neg Bool.false_ne_true]
      refine ⟨F2, R2, vs, s'.trans s2, none_l k2.fl (show (upd L D (.lst vs)) D = some _ from upd_same), ?_, o2, k2⟩
      rw [List.take_succ_eq_append_getElem hltk, List.filter_append, hxn, List.filter_cons, if_neg (by rw [hp]; exact Bool.false_ne_true), List.filter_nil, List.append_nil]
      exact rvs.mono s2
  · have ei : n = kvs.length := by omega
    subst ei
    refine .inl ⟨W.st d od kvs _ H' hfr (Nat.le_refl _), hfr, ?_⟩
    rw [hlen, List.take_length] at rvs
    have kz := a3.freeze (show (upd L D (.lst vs)) D = some (.lst vs) from upd_same)
    rw [del_upd (k1'.l.free hD)] at kz
    exact q _ _ _ _ ((s1.trans s').trans (same_new hF')) (Sep.mono (same_new hF') a2) kz (.lst upd_same (rvs.mono (same_new hF')))
end
/-! ### d.pop(k), the key there -/
theorem dropK_adrop {κ : Type} [DecidableEq κ] (kvs : List (κ × V)) (k : κ) : dropK kvs k = adrop kvs k := rfl
structure KP {κ : Type} [DecidableEq κ] (D : KD κ) : Prop where
  pop : ∀ {X : Cx} {pins : List (Addr × Obj)} {σ : L2.St} {F H : Hp} {s : Shared} {a : Addr} {y v : V} {u : Value} {kvs : List (κ × V)} {k : κ} {Q : Value → Shared → Prop} {E : Value → Shared → Prop}, X.A.units + 1 < cLine → Inv X pins σ H s → Rp F y (D.enc k) → Same F H → RelV y u → H a = some (D.ho kvs) → valV kvs k = some v →
    (∀ w' s', Inv X pins σ (upd H a (D.ho (dropK kvs k))) s' → RelV v w' → Q w' s') → wpAny (model X.prog X.w) X.A (call (.builtin "dict.pop") [.ref a, u]) Q E s
theorem kpK : KP kdK := ⟨fun hu I ry s ru ea l h => by
  have e := rp_key ry
  subst e
  exact d_pop I ea ru l (.inl rfl) h⟩
theorem kpT : KP kdT := ⟨fun {X pins σ F H s a y v u kvs k Q E} hu I ry sm ru ea l h => by
  cases ry with
  | tup h1 h2 =>
    rw [rpA_keys h2] at h1
    cases ru
    obtain ⟨z, hd, xs, rel, dd⟩ := dt_of I.hok ea
    obtain ⟨w', hw, rw'⟩ := RelO.some_of (v := v) (o := (atKey xs k).map (·.2)) (by rw [← l]; exact rel.val k)
    obtain ⟨p, hp, rfl⟩ := Option.map_eq_some_iff.mp hw
    refine call_pop_heap (knd := tupleKind (mixKind X.prog X.w)) (k := k) (.inl rfl) (PySem.F.args_dict_pop_2 _ _) (tupleKind_room_in1 hu) (key_of I.hok (sm _ _ h1)) hd dd hp (fun h' dd' hs => h p.2 _ ?_ rw') (by rw [← Paired.length rel]; exact z)
    obtain ⟨o, es, ep, hq, h2, h3, h4, _, h5⟩ := dd'
    exact d_write I (by rw [ea]; exact True.intro) hs ⟨o, hq⟩ ⟨Nat.le_trans (dropK_le kvs k) z, hd, _, (L2.DX.KT_drop k rel).keeps (fun c ys ec => (by rw [upd_ne (ne_of ec ea (fun z => nomatch z))]; exact ec)), o, es, ep, hq, h2, h3, h4, h5⟩⟩
section
variable {κ : Type} [DecidableEq κ] {D : KD κ} {X : Cx} {CA : Str → Addr} {R0 : Hp} {ρ : Rho} {w : List Thing} {e o : Expr} {apos cpos : Pos} {O : Sv → List Thing → Prop} {Ox : Str → List Thing → Prop} {q : Addr} {kss : List (κ × Sv)} {k : κ} {sv : Sv} {td ty : TE}
def tPopK (D : KD κ) (td ty : TE) : TE := fun σ H Q => td σ H fun x H1 => ∃ a, x = .ref a ∧ IsD H1 a ∧ ty σ H1 fun y H2 => ∃ F kvs k v, Rp F y (D.enc k) ∧ Same F H2 ∧ H2 a = some (D.ho kvs) ∧ valV kvs k = some v ∧ Q v (upd H2 a (D.ho (dropK kvs k)))
theorem pe_popK (P : KP D) (hu : X.A.units + 1 < cLine) (ho : PE X o td) (he : PE X e ty) (m : M1 X o "pop" apos e cpos) : PE X (.Call (.Attribute o "pop" apos) [e] [] cpos) (tPopK D td ty) := by
  refine ⟨fun pins s σ H Q I h => ?_⟩
  refine wpAny_Call_method m.base m.few m.line PySem.F.plainAttrs_dict PySem.F.slot_dict_pop PySem.F.type_dict_pop (thn (ho.run pins s σ H _ I h) fun u s1 z => ?_)
  obtain ⟨x, H1, I1, rx, a, ex, d, q1⟩ := z
  subst ex
  obtain rfl : u = Value.ref a := rx
  obtain ⟨t1, t2, _⟩ := isD_at I1 d
  refine ⟨t1, t2, ?_⟩
  rw [m.trees]
  refine Calls.callWith_builtin rfl (Calls.evalArgs_plain (Calls.spliced_cons (thn (he.run pins s1 σ H1 _ I1 q1) fun iv s2 z => Calls.spliced_nil ?_)))
  obtain ⟨y, H2, I2, ry, F, kvs, k, v, rk, sm, ea, l, q2⟩ := z
  exact P.pop hu I2 rk sm ry ea l fun w' s3 I3 r3 => ⟨v, _, I3, r3, q2⟩
/-- d.pop(k), k there -/
theorem es_dpop {t : Thing} {u : List (κ × Sv) → Thing} (P : KP D) (i : Nat) (hu : X.A.units + 1 < cLine) (ho : EvV X ((ThW R0).om w) ρ o (.raw (.ref q))) (he : Ev X ((ThW R0).om w) ρ e (D.enc k)) (hi : w[i]? = some t) (hw : DicW D t q kss u) (hk : aget kss k = some sv) (h : O sv (w.set i (u (adrop kss k))))
    (m : M1 X o "pop" apos e cpos := by exact ⟨rfl, rfl, rfl, rfl⟩) : EvS X CA (ThW R0) ρ w (.Call (.Attribute o "pop" apos) [e] [] cpos) O Ox := fun F L R H σ g ii kk Q Wx tk qq qx =>
  toE (pe_popK P hu (pe_w o) (pe_w e) m) (ho F L R H σ g ii kk _ fun v F1 R1 H1 s1 o1 k1 r1 => by
    cases r1
    obtain ⟨M1, hP1, hM1, _⟩ := Sep.upd o1 hi
    obtain ⟨kv1, e1, _⟩ := hw.is F1 M1 hP1
    refine ⟨q, rfl, D.isD (.inl (k1.r _ _ (hM1 _ _ e1))), he F1 L R1 H1 σ (g.mono s1) o1 k1 _ fun y F2 R2 H2 s2 o2 k2 r2 => ?_⟩
    obtain ⟨M, hP, hMR, hU⟩ := Sep.upd o2 hi
    obtain ⟨kvs, e2, rp⟩ := hw.is F2 M hP
    have e3 := hMR _ _ e2
    rcases rp.get k with ⟨z, _⟩ | ⟨sv', v', z1, z2, z3, z4⟩
    · rw [z] at hk
      cases hk
    · rw [hk] at z1
      cases z1
      refine ⟨F2, kvs, k, v', r2, k2.f, k2.r _ _ e3, by rw [valV_aget]; exact z2, ?_⟩
      have i3 := hU F2 q (D.ho (dropK kvs k)) (u (adrop kss k)) (Same.refl _) (.inl (by rw [e2]; simp)) (hw.put F2 M _ _ hP (rp.drop k))
      exact qq sv _ v' F2 _ _ h (s1.trans s2) i3 (RpS.anyL z4 z3) z4 (k2.setR e3))
end
end G
end

section
set_option Elab.async false
set_option linter.all false
set_option maxRecDepth 100000
set_option maxHeartbeats 4000000
/-! ### things made of things -/
namespace G
open PySem PySem.Spec PyProof.Rows L2
/-- these things, side by side, as one -/
def Grp (ts : List Thing) : Thing := ⟨fun F M => ∃ c : Addr → Option Nat, ∀ (i : Nat) (t : Thing), ts[i]? = some t → t.P F (part M c i), fun {F F' M M'} sF sM h => by
  obtain ⟨c, h⟩ := h
  refine ⟨c, fun i t e => t.mono sF (fun a o q => ?_) (h i t e)⟩
  have hc := part_some q
  rw [part_in hc] at q ⊢
  exact sM _ _ q⟩
theorem grp_open {F R0 R : Hp} {ts w : List Thing} {i : Nat} (h : Sep F R0 w R) (e : w[i]? = some (Grp ts)) : Sep F R0 (ts ++ w.set i EmpT) R := by
  obtain ⟨c, h0, h1⟩ := h
  obtain ⟨d, hd⟩ := h1 i _ e
  have hd : ∀ (k : Nat) (t : Thing), ts[k]? = some t → t.P F (part (part R c i) d k) := hd
  refine ⟨fun a => match c a with
    | none => none
    | some k => if k = i then (match d a with | some j => if j < ts.length then some j else none | none => none) else some (k + ts.length), fun a o q => ?_, fun k t q => ?_⟩
  · obtain ⟨q1, q2⟩ := h0 a o q
    exact ⟨q1, by simp [q2]⟩
  · by_cases hk : k < ts.length
    · rw [List.getElem?_append_left hk] at q
      refine t.mono (Same.refl F) (fun a o z => ?_) (hd k t q)
      have hda := part_some z
      rw [part_in hda] at z
      have hca := part_some z
      rw [part_in hca] at z
      rw [part_in]
      · exact z
      · simp [hca, hda, hk]
    · rw [List.getElem?_append_right (by omega)] at q
      rcases set_at q with ⟨_, rfl⟩ | ⟨hne, q⟩
      · trivial
      · refine t.mono (Same.refl F) (fun a o z => ?_) (h1 _ t q)
        have hca := part_some z
        rw [part_in hca] at z
        rw [part_in]
        · exact z
        · simp only [hca]
          rw [if_neg (fun z => hne z.symm)]
          congr 1
          omega
theorem grp_close {F R0 R : Hp} {ts w : List Thing} {i : Nat} (h : Sep F R0 (ts ++ w) R) : Sep F R0 (w.set i (Grp ts)) R := by
  obtain ⟨c, h0, h1⟩ := h
  refine ⟨fun a => match c a with
    | none => none
    | some k => if k < ts.length then some i else if k = i + ts.length then none else some (k - ts.length), fun a o q => ?_, fun k t q => ?_⟩
  · obtain ⟨q1, q2⟩ := h0 a o q
    exact ⟨q1, by simp [q2]⟩
  · rcases set_at q with ⟨rfl, rfl⟩ | ⟨hne, q⟩
    · refine ⟨c, fun j t e => ?_⟩
      have hj : j < ts.length := (List.getElem?_eq_some_iff.mp e).1
      refine t.mono (Same.refl F) (fun a o z => ?_) (h1 j t (by rw [List.getElem?_append_left hj]; exact e))
      have hca := part_some z
      rw [part_in hca] at z
      rw [part_in hca, part_in]
      · exact z
      · simp [hca, hj]
    · refine t.mono (Same.refl F) (fun a o z => ?_) (h1 (k + ts.length) t (by rw [List.getElem?_append_right (by omega), Nat.add_sub_cancel]; exact q))
      have hca := part_some z
      rw [part_in hca] at z
      rw [part_in]
      · exact z
      · simp only [hca]
        rw [if_neg (by omega), if_neg (by omega), Nat.add_sub_cancel]
theorem grp_get {F : Hp} {M : Hp} {ts : List Thing} {i : Nat} {t : Thing} (h : (Grp ts).P F M) (e : ts[i]? = some t) : ∃ N, t.P F N ∧ Same N M := by
  obtain ⟨c, h⟩ := h
  exact ⟨_, h i t e, part_same⟩
theorem grp_of {F : Hp} {M : Hp} {ts : List Thing} (c : Addr → Option Nat) (h : ∀ (i : Nat) (t : Thing), ts[i]? = some t → t.P F (part M c i)) : (Grp ts).P F M := ⟨c, h⟩
/-! ### the same rest seen otherwise, by some choice -/
section
variable {X : Cx} {CA : Str → Addr} {R0 : Hp} {ρ : Rho} {w : List Thing} {rest : List Stmt} {OS : Out (List Thing)} {e : Expr} {O : Sv → List Thing → Prop} {Ox : Str → List Thing → Prop}
theorem sb_seeX {α : Type} {w' : α → List Thing} (h : ∀ F R, Sep F R0 w R → ∃ x, Sep F R0 (w' x) R) (hs : ∀ x, SB X CA (ThW R0) ρ (w' x) rest OS) : SB X CA (ThW R0) ρ w rest OS := fun F L R H σ g i k D Wx tk m => by
  obtain ⟨x, i'⟩ := h F R i
  exact hs x F L R H σ g i' k D Wx tk m
theorem es_seeX {α : Type} {w' : α → List Thing} (h : ∀ F R, Sep F R0 w R → ∃ x, Sep F R0 (w' x) R) (hs : ∀ x, EvS X CA (ThW R0) ρ (w' x) e O Ox) : EvS X CA (ThW R0) ρ w e O Ox := fun F L R H σ g i k Q Wx tk q qx => by
  obtain ⟨x, i'⟩ := h F R i
  exact hs x F L R H σ g i' k Q Wx tk q qx
theorem ev_seeX {α : Type} {w' : α → List Thing} {d : PyData} (h : ∀ F R, Sep F R0 w R → ∃ x, Sep F R0 (w' x) R) (h' : ∀ x F R, Sep F R0 (w' x) R → Sep F R0 w R) (hs : ∀ x, Ev X ((ThW R0).om (w' x)) ρ e d) : Ev X ((ThW R0).om w) ρ e d := fun F L R H σ g i k Q q => by
  obtain ⟨x, i'⟩ := h F R i
  exact hs x F L R H σ g i' k Q fun v F' R' H' s' o' => q v F' R' H' s' (h' x F' R' o')
theorem et_seeX {α : Type} {w' : α → List Thing} {b : Bool} (h : ∀ F R, Sep F R0 w R → ∃ x, Sep F R0 (w' x) R) (h' : ∀ x F R, Sep F R0 (w' x) R → Sep F R0 w R) (hs : ∀ x, EvT X ((ThW R0).om (w' x)) ρ e b) : EvT X ((ThW R0).om w) ρ e b := fun F L R H σ g i k Q q => by
  obtain ⟨x, i'⟩ := h F R i
  exact hs x F L R H σ g i' k Q fun F' R' H' s' o' => q F' R' H' s' (h' x F' R' o')
/-- what is returned, seen otherwise -/
theorem es_post (h : EvS X CA (ThW R0) ρ w e (fun sv w1 => ∃ w2, Sees R0 w1 w2 ∧ O sv w2) (fun c w1 => ∃ w2, Sees R0 w1 w2 ∧ Ox c w2)) : EvS X CA (ThW R0) ρ w e O Ox := fun F L R H σ g i k Q Wx tk q qx =>
  h F L R H σ g i k Q Wx tk (fun sv w1 v F' R' H' o s' i' => by
    obtain ⟨w2, hs, o⟩ := o
    exact q sv w2 v F' R' H' o s' (hs F' R' i')) (fun c w1 F' R' H' o s' i' => by
    obtain ⟨w2, hs, o⟩ := o
    exact qx c w2 F' R' H' o s' (hs F' R' i'))
end
end G
end

section
set_option Elab.async false
set_option linter.all false
set_option maxRecDepth 100000
set_option maxHeartbeats 4000000
/-! ### names; books -/
namespace Sh
open PySem
def small : Str := "abcdefghijklmnopqrstuvwxyz"
def goodN (z : Str) : Bool := (decide ((1 : Int) ≤ z.length) && decide ((z.length : Int) ≤ 8)) && (cs z).all fun c => decide (c ∈ cs small)
/-- a kind: shape, how many make a pile, whether it may be turned, weight, tags -/
structure Kd where
  m : Mx
  most : Int
  turn : Bool
  heavy : Int
  tags : List Str
def tagsD (l : List Str) : PyData := .tuple (l.map PyData.str)
def Kd.d (k : Kd) : PyData := .tuple [shD k.m.enc, .int k.most, .bool k.turn, .int k.heavy, tagsD k.tags]
end Sh
namespace G
open PySem PySem.Spec PyProof.Rows L2 Sh
structure TxtN (K : PySem.W.Frag) (mg : Str → Option Value) (CA : Str → Addr) : Prop where
  small : ∃ t, mg "SMALL" = some (.str Sh.small t)
  mname : ∃ t, mg "MOST_NAME" = some (.int 8 t)
  bad : ExcT K mg CA "BadKind"
  d : DefT K mg "look_name" T.s_look_name
def relName : List PyData → Res → Prop := fun ds o => ∃ z : Str, ds = [.str z] ∧ z.length ≤ 100 ∧ o = if goodN z then .ok .none else .ex "BadKind"
section
variable {P : Program} {w : World} {K : PySem.W.Frag} {mg : Str → Option Value} {base : Heap} {CA : Str → Addr}
theorem ok_name (t : TxtS K mg CA) (tn : TxtN K mg CA) : FnF P w K mg base 1 "look_name" (lift CA (pmD relName)) := by
  refine mkFn tn.d (ps := T.P_look_name) (fun f fd Fd => fn_data Fd T.sc_look_name (fun ds o h => ?_) fun cdv A outer s H E R0 hr ds o h => ?_) fun _ _ _ _ _ _ us hl => match us, hl with | [_], _ => rfl
  · obtain ⟨z, rfl, _⟩ := h
    rfl
  · obtain ⟨z, rfl, hl, rfl⟩ := h
    have nd := T.sc_look_name.nd
    have lz : (cs z).length = z.length := (TL.len_tl z).symm
    refine sb_when (v := !goodN z) (EvT.is (et_or (et_not (et_lele ev_int (ev_lenS t.len (ev_var 0) (small hl)) (ev_gint tn.mname))) (fun _ => et_not (et_val (ev_allF rfl t.all (ev_lcp (own := [("sign", 1)]) rfl nd (blkOk_by (N := T.N_look_name) (sc := defScope T.s_look_name) (by decide +kernel))
      (lc_map (cs z) (fun c => .str ⟨#[c]⟩) (fun c => .bool (decide (c ∈ cs Sh.small))) (fun c => _) (ei_str (ev_var 0)).c (by rw [lz]; exact Nat.lt_of_le_of_lt hl (by decide)) (fun _ _ _ _ _ r hx => tg_name 1 nd (by decide))
        (fun _ _ _ _ _ r hx => ev_inC (ev_var 1) (ev_gstr tn.small)))))))) ?_) (fun h => ?_) (fun h => ?_)
    · unfold goodN
      generalize (cs z).all _ = b
      cases b <;> simp
    · refine sb_one (s_raiseT tn.bad rfl ?_)
      have e : goodN z = false := by simpa using h
      show (if goodN z then Res.ok .none else Res.ex "BadKind") = .ex "BadKind"
      rw [e]
      rfl
    · refine sb_nil ?_
      have e : goodN z = true := by simpa using h
      show (if goodN z then Res.ok .none else Res.ex "BadKind") = .ok .none
      rw [e]
      rfl
end
/-! the book -/
structure Bok where
  b : Addr
  dx : Addr
  ra : Addr
  rows : List (Str × Kd)
def Bok.kss (B : Bok) : List (L2.Key × Sv) := B.rows.map fun p => (.inr p.1, .d p.2.d)
def BookT (C : Addr) (B : Bok) : Thing := ⟨fun F M => M B.b = some (.ins C B.dx [("rows", .ref B.ra)]) ∧ M B.dx = some (.own B.b) ∧ ∃ kvs, M B.ra = some (.dK kvs) ∧ RpK F kvs B.kss, fun sF sM h => by
  obtain ⟨h1, h2, kvs, h3, h4⟩ := h
  exact ⟨sM _ _ h1, sM _ _ h2, kvs, sM _ _ h3, h4.mono sF⟩⟩
theorem book_fld {K : PySem.W.Frag} {C : Addr} {B : Bok} {w : List Thing} (i : Nat) (e : w[i]? = some (BookT C B)) (c : Cls K C) (na : NoAttr K C "rows") : Fld K w B.b "rows" (.raw (.ref B.ra)) := by
  refine ⟨rfl, fun F R0 R H s sf sr => ?_⟩
  obtain ⟨M, ⟨h1, _⟩, h2⟩ := s.get e
  exact ⟨C, B.dx, _, _, sr _ _ (h2 _ _ h1), c, na, rfl, rfl⟩
theorem book_is {C : Addr} {B : Bok} {w : List Thing} (i : Nat) (e : w[i]? = some (BookT C B)) : IsI w B.b C ["rows"] := fun F R0 R H s sf sr => by
  obtain ⟨M, ⟨h1, _⟩, h2⟩ := s.get e
  exact ⟨B.dx, _, sr _ _ (h2 _ _ h1), rfl⟩
theorem book_dic {C : Addr} {B : Bok} {w : List Thing} (i : Nat) (e : w[i]? = some (BookT C B)) : DicH kdK w B.ra B.kss := fun F R0 R H s sf sr => by
  obtain ⟨M, ⟨_, _, kvs, h3, h4⟩, h2⟩ := s.get e
  exact ⟨kvs, sr _ _ (h2 _ _ h3), h4⟩
theorem book_get (B : Bok) (z : Str) : aget B.kss (.inr z) = (aget B.rows z).map fun k => .d k.d := by
  unfold Bok.kss
  exact aget_map (κ := Str) (κ' := L2.Key) Sum.inr (fun k : Kd => Sv.d k.d) (fun a b h => by cases h; rfl) z B.rows
theorem book_put (C : Addr) (B : Bok) {z : Str} (k : Kd) : DicW kdK (BookT C B) B.ra B.kss fun kss => ⟨fun F M => M B.b = some (.ins C B.dx [("rows", .ref B.ra)]) ∧ M B.dx = some (.own B.b) ∧ ∃ kvs, M B.ra = some (.dK kvs) ∧ RpK F kvs kss, fun sF sM h => by
    obtain ⟨h1, h2, kvs, h3, h4⟩ := h
    exact ⟨sM _ _ h1, sM _ _ h2, kvs, sM _ _ h3, h4.mono sF⟩⟩ := by
  refine ⟨fun F M ⟨_, _, kvs, h3, h4⟩ => ⟨kvs, h3, h4⟩, fun F M kvs' kss' ⟨h1, h2, kvs, h3, h4⟩ r => ⟨?_, ?_, kvs', upd_same, r⟩⟩
  · rw [upd_ne (fun q => by rw [q, h3] at h1; cases h1)]
    exact h1
  · rw [upd_ne (fun q => by rw [q, h3] at h2; cases h2)]
    exact h2
end G
end

section
set_option Elab.async false
set_option linter.all false
set_option maxRecDepth 100000
set_option maxHeartbeats 4000000
/-! ### a book's methods -/
namespace G
open PySem PySem.Spec PyProof.Rows L2 Sh
structure TxtB (K : PySem.W.Frag) (mg : Str → Option Value) (CA : Str → Addr) : Prop where
  c : ClsT K mg CA "Book" ["rows"]
  bad : ExcT K mg CA "BadKind"
  num : ExcT K mg CA "BadNumber"
/-- what is asked of a kind by its name -/
def askR (C : Addr) (f : Kd → PyData) : List Sv → List Thing → ResS → Prop := fun svs w r => ∃ (j : Nat) (B : Bok) (z : Str), svs = [.raw (.ref B.b), .d (.str z)] ∧ w[j]? = some (BookT C B) ∧ r = match aget B.rows z with
  | some k => .ok (.d (f k))
  | none => .ex "BadKind"
theorem len2 {C : Addr} {f : Kd → PyData} : ∀ svs th Q, rdo (askR C f) svs th Q → svs.length = 2 := by
  rintro svs th Q ⟨r, ⟨j, B, z, rfl, _⟩, _⟩
  rfl
def turnsR (C : Addr) : List Sv → List Thing → ResS → Prop := fun svs w r => ∃ (j : Nat) (B : Bok) (z : Str), svs = [.raw (.ref B.b), .d (.str z)] ∧ w[j]? = some (BookT C B) ∧ (∀ p ∈ B.rows, p.2.m.Good) ∧ r = match aget B.rows z with
  | some k => .ok (.d (natsD (if k.turn then turnsM k.m else [0])))
  | none => .ex "BadKind"
section
variable {P : Program} {w : World} {K : PySem.W.Frag} {mg : Str → Option Value} {base : Heap} {CA : Str → Addr}
abbrev NeedF (P : Program) (w : World) (K : PySem.W.Frag) (mg : Str → Option Value) (base : Heap) (CA : Str → Addr) : Prop := FnM P w K mg base 1 (CA "Book") "need" (lift CA (pmW (rdo (askR (CA "Book") fun _ => .none))))
theorem ok_need (tb : TxtB K mg CA) (D : MethT K CA "Book" "need" "Book.need" T.s_Book_need) : NeedF P w K mg base CA := by
  refine mkM D T.sc_Book_need len2 (fun f cdv A outer s H E R0 svs th Q hr h => ?_) fun _ _ _ _ _ _ us hl => match us, hl with | [_, _], _ => rfl
  obtain ⟨r, ⟨j, B, z, rfl, hj, rfl⟩, hq⟩ := h
  have nd := T.sc_Book_need.nd
  refine sb_when (v := !(aget B.rows z).isSome) (EvT.is (et_dnotin (D := kdK) (k := .inr z) (u1 hr) (ev_var 1) (vfld (vv 0) (book_fld j hj tb.c.c (tb.c.na _ (by decide)))) (book_dic j hj).r) ?_) (fun h => ?_) (fun h => ?_)
  · rw [book_get]
    cases aget B.rows z <;> rfl
  · refine sb_one (s_raiseT tb.bad rfl ?_)
    cases e : aget B.rows z with
    | some k =>
      rw [e] at h
      cases h
    | none =>
      rw [e] at hq
      exact hq
  · refine sb_nil ?_
    cases e : aget B.rows z with
    | none =>
      rw [e] at h
      cases h
    | some k =>
      rw [e] at hq
      exact hq
/-- what all askers do first -/
theorem asked {X : Cx} {R0 : Hp} {ρ : Rho} {th : List Thing} {rest : List Stmt} {Q : ResS → List Thing → Prop} {pos p2 p3 : Pos} {f : Kd → PyData} {pl : Sem Bool} {B : Bok} {z : Str} {o : Expr} {e : Expr} (j : Nat) (c : Cls X.K (CA "Book")) (fn : FnM X.prog X.w X.K X.mg X.base 1 (CA "Book") "need" (lift CA (pmW (rdo (askR (CA "Book") fun _ => .none))))) (hr : Room 1 X.A) (hj : th[j]? = some (BookT (CA "Book") B))
    (ho : EvV X ((ThW R0).om th) ρ o (.raw (.ref B.b))) (he : Ev X ((ThW R0).om th) ρ e (.str z)) (hq : Q (match aget B.rows z with
      | some k => .ok (.d (f k))
      | none => .ex "BadKind") th) (hs : ∀ k, aget B.rows z = some k → Q (.ok (.d (f k))) th → SB X CA (ThW R0) ρ th rest (outW Q))
    (hst : starEach [e] X.env = (false, eval e X.env) :: starEach [] X.env := by rfl) (hpl : (backTo p3 (starEach [] X.env)).any (·.1) = false := by rfl)
    (ht : eval (.Call (.Attribute o "need" p2) [e] [] p3) X.env = (do
      let ov ← eval o X.env
      standAt p2.atName
      let (f, first) ← holding [ov] (getMethod ov "need" pl)
      callWith p3 f first (backTo p3 (starEach [e] X.env)) (backToKw p3 (keywordEach [] X.env))) := by rfl)
    (hw : swapsWith (.Call (.Attribute o "need" p2) [e] [] p3) none pos.line X.env = pure false := by rfl) : SB X CA (ThW R0) ρ th (.Expr (.Call (.Attribute o "need" p2) [e] [] p3) pos :: rest) (outW Q) := by
  refine sb_cons (s_expr (emeth fn hr c ho (book_is j hj) (va_one (Ev.v he) rfl hst) ⟨_, ⟨j, B, z, rfl, hj, rfl⟩, ?_⟩ (by decide) hst hpl ht) hw)
  cases e : aget B.rows z with
  | none =>
    rw [e] at hq
    exact hq
  | some k =>
    rw [e] at hq
    exact hs k e hq
theorem ok_bshape (tb : TxtB K mg CA) (fn : NeedF P w K mg base CA) (D : MethT K CA "Book" "shape" "Book.shape" T.s_Book_shape) : FnM P w K mg base 2 (CA "Book") "shape" (lift CA (pmW (rdo (askR (CA "Book") fun k => shD k.m.enc)))) := by
  refine mkM D T.sc_Book_shape len2 (fun f cdv A outer s H E R0 svs th Q hr h => ?_) fun _ _ _ _ _ _ us hl => match us, hl with | [_, _], _ => rfl
  obtain ⟨r, ⟨j, B, z, rfl, hj, rfl⟩, hq⟩ := h
  refine asked j tb.c.c fn hr hj (vv 0) (ev_var 1) hq fun k hk hq => ?_
  exact sb_one (s_ret (Ev.s (ev_ixT (EvV.dat (vdget (D := kdK) (k := .inr z) (u1 hr) (vfld (vv 0) (book_fld j hj tb.c.c (tb.c.na _ (by decide)))) (ev_var 1) (book_dic j hj).r (by rw [book_get, hk]; rfl))) ev_int rfl) hq))
theorem ok_bmost (tb : TxtB K mg CA) (fn : NeedF P w K mg base CA) (D : MethT K CA "Book" "most" "Book.most" T.s_Book_most) : FnM P w K mg base 2 (CA "Book") "most" (lift CA (pmW (rdo (askR (CA "Book") fun k => .int k.most)))) := by
  refine mkM D T.sc_Book_most len2 (fun f cdv A outer s H E R0 svs th Q hr h => ?_) fun _ _ _ _ _ _ us hl => match us, hl with | [_, _], _ => rfl
  obtain ⟨r, ⟨j, B, z, rfl, hj, rfl⟩, hq⟩ := h
  refine asked j tb.c.c fn hr hj (vv 0) (ev_var 1) hq fun k hk hq => ?_
  exact sb_one (s_ret (Ev.s (ev_ixT (EvV.dat (vdget (D := kdK) (k := .inr z) (u1 hr) (vfld (vv 0) (book_fld j hj tb.c.c (tb.c.na _ (by decide)))) (ev_var 1) (book_dic j hj).r (by rw [book_get, hk]; rfl))) ev_int rfl) hq))
theorem ok_bweight (tb : TxtB K mg CA) (fn : NeedF P w K mg base CA) (D : MethT K CA "Book" "weight" "Book.weight" T.s_Book_weight) : FnM P w K mg base 2 (CA "Book") "weight" (lift CA (pmW (rdo (askR (CA "Book") fun k => .int k.heavy)))) := by
  refine mkM D T.sc_Book_weight len2 (fun f cdv A outer s H E R0 svs th Q hr h => ?_) fun _ _ _ _ _ _ us hl => match us, hl with | [_, _], _ => rfl
  obtain ⟨r, ⟨j, B, z, rfl, hj, rfl⟩, hq⟩ := h
  refine asked j tb.c.c fn hr hj (vv 0) (ev_var 1) hq fun k hk hq => ?_
  exact sb_one (s_ret (Ev.s (ev_ixT (EvV.dat (vdget (D := kdK) (k := .inr z) (u1 hr) (vfld (vv 0) (book_fld j hj tb.c.c (tb.c.na _ (by decide)))) (ev_var 1) (book_dic j hj).r (by rw [book_get, hk]; rfl))) ev_int rfl) hq))
theorem ok_bturns (t : TxtS K mg CA) (tb : TxtB K mg CA) (fu : TurnsF P w K mg base CA) (fn : NeedF P w K mg base CA) (D : MethT K CA "Book" "turns" "Book.turns" T.s_Book_turns) : FnM P w K mg base 4 (CA "Book") "turns" (lift CA (pmW (rdo (turnsR (CA "Book"))))) := by
  refine mkM D T.sc_Book_turns ?_ (fun f cdv A outer s H E R0 svs th Q hr h => ?_) fun _ _ _ _ _ _ us hl => match us, hl with | [_, _], _ => rfl
  · rintro svs th Q ⟨r, ⟨j, B, z, rfl, _⟩, _⟩
    rfl
  obtain ⟨r, ⟨j, B, z, rfl, hj, hB, rfl⟩, hq⟩ := h
  refine asked (f := fun k => natsD (if k.turn then turnsM k.m else [0])) j tb.c.c fn (hr.mono (by decide)) hj (vv 0) (ev_var 1) hq fun k hk hq => ?_
  refine sb_one (s_ret (Ev.s (ev_if (v := k.turn) (et_val (ev_ixT (EvV.dat (vdget (D := kdK) (k := .inr z) (u1 hr) (vfld (vv 0) (book_fld j hj tb.c.c (tb.c.na _ (by decide)))) (ev_var 1) (book_dic j hj).r (by rw [book_get, hk]; rfl))) ev_int rfl)) (fun h => ?_) (fun h => ?_)) hq))
  · rw [h, if_pos rfl]
    exact ev_call fu (hr.mono (by decide)) (ea_one (ev_ixT (EvV.dat (vdget (D := kdK) (k := .inr z) (u1 hr) (vfld (vv 0) (book_fld j hj tb.c.c (tb.c.na _ (by decide)))) (ev_var 1) (book_dic j hj).r (by rw [book_get, hk]; rfl))) ev_int rfl)) (turnsOf_good (hB _ (aget_mem hk)))
  · rw [h, if_neg Bool.false_ne_true]
    exact ev_lst (ea_one ev_int)
def namesR (C : Addr) : List Sv → List Thing → ResS → Prop := fun svs w r => ∃ (j : Nat) (B : Bok), svs = [.raw (.ref B.b)] ∧ w[j]? = some (BookT C B) ∧ r = .ok (.d (.list ((sortS (B.rows.map (·.1))).map PyData.str)))
theorem ok_bnames (hs : mg "sorted" = none) (tb : TxtB K mg CA) (D : MethT K CA "Book" "names" "Book.names" T.s_Book_names) : FnM P w K mg base 1 (CA "Book") "names" (lift CA (pmW (rdo (namesR (CA "Book"))))) := by
  refine mkM D T.sc_Book_names ?_ (fun f cdv A outer s H E R0 svs th Q hr h => ?_) fun _ _ _ _ _ _ us hl => match us, hl with | [_], _ => rfl
  · rintro svs th Q ⟨r, ⟨j, B, rfl, _⟩, _⟩
    rfl
  obtain ⟨r, ⟨j, B, rfl, hj, rfl⟩, hq⟩ := h
  refine sb_one (s_ret (Ev.s (ev_sortK (B.rows.map fun p : Str × Kd => p.1) (fun z => .inr z) PyData.str rfl (u100 hr) hs (vfld (vv 0) (book_fld j hj tb.c.c (tb.c.na _ (by decide)))) (book_dic j hj).r ?_ (fun _ => rfl) (.inl ⟨id, fun _ => rfl⟩)) hq))
  unfold Bok.kss
  rw [List.map_map, List.map_map]
  rfl
end
end G
end

section
set_option Elab.async false
set_option linter.all false
set_option maxRecDepth 100000
set_option maxHeartbeats 4000000
/-! ### a new book; a kind added -/
namespace G
open PySem PySem.Spec PyProof.Rows L2 Sh
def spBook (C : Addr) : Spc := fun svs w Q => ∃ (w0 : List Thing) (a dx : Addr), svs = [.raw (.ref a)] ∧ dx ≠ a ∧ w = w0 ++ [InsT C a dx []] ∧ ∀ ra, Q (.ok (.d .none)) (w0 ++ [BookT C ⟨a, dx, ra, []⟩])
theorem set_last {α : Type} (l : List α) (x y : α) : (l ++ [x]).set l.length y = l ++ [y] := by simp
theorem at_last {α : Type} (l : List α) (x : α) : (l ++ [x])[l.length]? = some x := by simp
/-- which refusal is due -/
def addDue (B : Bok) (z : Str) (rows : List Str) (most heavy : Int) (tags : List Str) : Option Str :=
  if !goodN z || ((aget B.rows z).isSome || decide (B.rows.length = 30)) then some "BadKind"
  else if !goodS rows then some "BadShape"
  else if !(decide (1 ≤ most) && decide (most ≤ 99)) || !(decide (0 ≤ heavy) && decide (heavy ≤ 999)) then some "BadNumber"
  else if tags.all goodN then none else some "BadKind"
def Bok.with (B : Bok) (z : Str) (k : Kd) : Bok := { B with rows := B.rows ++ [(z, k)] }
def spAdd (C : Addr) : Spc := fun svs w Q => ∃ (j : Nat) (B : Bok) (z : Str) (rows : List Str) (most : Int) (turn : Bool) (heavy : Int) (tags : List Str), svs = [.raw (.ref B.b), .d (.str z), .d (shD rows), .d (.int most), .d (.bool turn), .d (.int heavy), .d (.list (tags.map PyData.str))] ∧
  w[j]? = some (BookT C B) ∧ B.rows.length ≤ 30 ∧ z.length ≤ 100 ∧ (∀ y ∈ tags, y.length ≤ 100) ∧ tags.length < 1000 ∧ ((∃ m : Mx, m.Good ∧ rows = m.enc) ∨ (rows.length ≤ 100 ∧ (∀ r ∈ rows, r.length ≤ 100) ∧ goodS rows = false)) ∧
  match addDue B z rows most heavy tags with
  | some c => Q (.ex c) w
  | none => ∀ (m : Mx) (ts : List Str), m.Good → rows = m.enc → (∀ x, x ∈ ts ↔ x ∈ tags) → Q (.ok (.d .none)) (w.set j (BookT C (B.with z ⟨m, most, turn, heavy, ts⟩)))
structure TxtA (mg : Str → Option Value) : Prop where
  pile : ∃ t, mg "MOST_PILE" = some (.int 99 t)
  weight : ∃ t, mg "MOST_WEIGHT" = some (.int 999 t)
  kinds : ∃ t, mg "MOST_KINDS" = some (.int 30 t)
  sorted : mg "sorted" = none
  set : mg "set" = none
section
variable {P : Program} {w : World} {K : PySem.W.Frag} {mg : Str → Option Value} {base : Heap} {CA : Str → Addr}
theorem ok_book (tb : TxtB K mg CA) (D : MakeT K mg CA "Book" "Book.__init__" T.s_Book_init) : FnN P w K mg base 1 (CA "Book") "Book" (lift CA (pmW (spBook (CA "Book")))) := by
  refine mkN D T.sc_Book_init ?_ (fun f cdv A outer s H E R0 svs th Q hr h => ?_) fun _ _ _ _ _ _ us hl => match us, hl with | [_], _ => rfl
  · rintro svs th Q ⟨_, _, _, rfl, _⟩
    rfl
  obtain ⟨w0, a, dx, rfl, hne, rfl, hq⟩ := h
  have nd := T.sc_Book_init.nd
  refine sb_post (sb_one (s_fsetS w0.length (es_dnew kdK fun q => ⟨a, CA "Book", [], _, _, vv 0, ?_, insW_T hne, tb.c.c, tb.c.na _ (by decide), by decide, ?_⟩)))
  · rw [List.getElem?_append_left (by simp)]
    exact at_last _ _
  · refine ⟨_, fun F R h => ?_, hq q⟩
    have e : ((w0 ++ [InsT (CA "Book") a dx []]) ++ [DicS kdK q []]).set w0.length (InsS (CA "Book") a dx (putFS "rows" (.raw (.ref q)) [])) = (w0 ++ [InsS (CA "Book") a dx [("rows", .raw (.ref q))]]) ++ [DicS kdK q []] := by
      rw [List.set_append_left _ _ (by simp), set_last]
      rfl
    rw [e] at h
    have h2 := joinD (t' := BookT (CA "Book") ⟨a, dx, q, []⟩) h (at_last _ _) fun M N hM hN dj => by
      obtain ⟨fs, h1, h2, h3⟩ := hM
      obtain ⟨kvs, h4, h5⟩ := hN
      cases h3 with
      | cons h6 h7 =>
        cases h7
        rename_i p
        obtain ⟨pf, pv⟩ := p
        obtain ⟨e1, e2, _⟩ := h6
        have e1 : pf = "rows" := e1
        have e2 : pv = .ref q := e2
        subst e1 e2
        have nq := none_l dj h4
        exact ⟨un_l h1, un_l h2, kvs, by rw [un_r nq]; exact h4, h5⟩
    rw [set_last] at h2
    exact h2
theorem with_kss (B : Bok) (z : Str) (k : Kd) (h : aget B.rows z = none) : aput B.kss (.inr z) (.d k.d) = (B.with z k).kss := by
  unfold Bok.kss Bok.with
  have e : aget B.kss (.inr z) = none := by
    rw [book_get, h]
    rfl
  unfold Bok.kss at e
  rw [aput_new _ e, List.map_append]
  rfl
theorem ok_badd (t : TxtS K mg CA) (ta : TxtA mg) (tb : TxtB K mg CA) (fl : LookF P w K mg base CA) (fn : FnF P w K mg base 1 "look_name" (lift CA (pmD relName))) (D : MethT K CA "Book" "add" "Book.add" T.s_Book_add) : FnM P w K mg base 3 (CA "Book") "add" (lift CA (pmW (spAdd (CA "Book")))) := by
  refine mkM D T.sc_Book_add ?_ (fun f cdv A outer s H E R0 svs th Q hr h => ?_) fun _ _ _ _ _ _ us hl => match us, hl with | [_, _, _, _, _, _, _], _ => rfl
  · rintro svs th Q ⟨_, _, _, _, _, _, _, _, rfl, _⟩
    rfl
  obtain ⟨j, B, z, rows, most, turn, heavy, tags, rfl, hj, hB, hz, ht, htl, hrows, hq⟩ := h
  have nd := T.sc_Book_add.nd
  -- look_name(name)
  refine sb_cons (s_expr (es_callD fn (hr.mono (by decide)) (ea_one (ev_var 1)) ⟨z, rfl, hz, rfl⟩ (fun d e => ?_) (fun c e => ?_)))
  rotate_left
  · cases g : goodN z with
    | true =>
      rw [g] at e
      cases e
    | false =>
      rw [g] at e
      cases e
      have q : addDue B z rows most heavy tags = some "BadKind" := by
        unfold addDue
        rw [g]
        rfl
      rw [q] at hq
      exact hq
  have gz : goodN z = true := by
    cases g : goodN z with
    | true => rfl
    | false =>
      rw [g] at e
      cases e
  -- name in self.rows or len(self.rows) == MOST_KINDS
  refine sb_when (v := (aget B.rows z).isSome || decide (B.rows.length = 30)) (EvT.is (et_or (et_din (D := kdK) (k := .inr z) (u1 hr) (ev_var 1) (vfld (vv 0) (book_fld j hj tb.c.c (tb.c.na _ (by decide)))) (book_dic j hj).r) (fun _ => et_eqI (ev_dlen t.len (vfld (vv 0) (book_fld j hj tb.c.c (tb.c.na _ (by decide)))) (book_dic j hj)) (ev_gint ta.kinds))) ?_) (fun h => ?_) (fun h => ?_)
  · rw [book_get]
    have e1 : (B.kss.length : Int) = (B.rows.length : Int) := by
      unfold Bok.kss
      rw [List.length_map]
    rw [e1, show ((30 : Int)) = ((30 : Nat) : Int) from rfl, dec_cast]
    cases aget B.rows z <;> rfl
  · refine sb_one (s_raiseT tb.bad rfl ?_)
    have q : addDue B z rows most heavy tags = some "BadKind" := by
      unfold addDue
      rw [h, Bool.or_true]
      rfl
    rw [q] at hq
    exact hq
  have hnew : aget B.rows z = none := by
    cases q : aget B.rows z with
    | none => rfl
    | some k =>
      rw [q] at h
      cases h
  -- look_shape(shape)
  have hlook : relLook [shD rows] (if goodS rows then .ok .none else .ex "BadShape") := by
    rcases hrows with ⟨m, g, rfl⟩ | ⟨h1, h2, _⟩
    · exact ⟨m.enc, rfl, (enc_small g).1, (enc_small g).2, rfl⟩
    · exact ⟨rows, rfl, h1, h2, rfl⟩
  refine sb_cons (s_expr (es_callD fl (hr.mono (by decide)) (ea_one (ev_var 2)) hlook (fun d e => ?_) (fun c e => ?_)))
  rotate_left
  · cases g : goodS rows with
    | true =>
      rw [g] at e
      cases e
    | false =>
      rw [g] at e
      cases e
      have q : addDue B z rows most heavy tags = some "BadShape" := by
        unfold addDue
        rw [h, gz, g]
        rfl
      rw [q] at hq
      exact hq
  have gs : goodS rows = true := by
    cases g : goodS rows with
    | true => rfl
    | false =>
      rw [g] at e
      cases e
  obtain ⟨m, gm, rfl⟩ : ∃ m : Mx, m.Good ∧ rows = m.enc := by
    rcases hrows with q | ⟨_, _, q⟩
    · exact q
    · rw [gs] at q
      cases q
  refine sb_when (et_or (et_not (et_lele ev_int (ev_var 3) (ev_gint ta.pile))) (fun _ => et_not (et_lele ev_int (ev_var 5) (ev_gint ta.weight)))) (fun h2 => ?_) (fun h2 => ?_)
  · refine sb_one (s_raiseT tb.num rfl ?_)
    have q : addDue B z m.enc most heavy tags = some "BadNumber" := by
      unfold addDue
      rw [h, gz, gs, h2]
      rfl
    rw [q] at hq
    exact hq
  -- for tag in tags
  refine sb_cons (s_for tags PyData.str (vs := [7]) (passes_of rfl) rfl (ei_list (ev_var 6)) (fun i ρ' th' => th' = th ∧ (∃ o7, ρ' = [some (.raw (.ref B.b)), some (.d (.str z)), some (.d (shD m.enc)), some (.d (.int most)), some (.d (.bool turn)), some (.d (.int heavy)), some (.d (.list (tags.map PyData.str))), o7]) ∧ ∀ y ∈ tags.take i, goodN y = true) ⟨rfl, ⟨none, rfl⟩, by simp⟩ ?_ ?_)
  · rintro i y ρ' th' hi ⟨rfl, ⟨o7, rfl⟩, hall⟩
    have hy : y ∈ tags := List.mem_of_getElem? hi
    refine ⟨_, tg_name 7 nd (by decide), ?_⟩
    refine sb_one (s_expr (es_callD fn (hr.mono (by decide)) (ea_one (ev_var 7)) ⟨y, rfl, ht y hy, rfl⟩ (fun d e => ?_) (fun c e => ?_)))
    · refine ⟨rfl, ⟨_, rfl⟩, fun x hx => ?_⟩
      rw [List.take_add_one, hi] at hx
      rcases List.mem_append.mp hx with hx | hx
      · exact hall x hx
      · have : x = y := by simpa using hx
        subst this
        cases g : goodN x with
        | true => rfl
        | false =>
          rw [g] at e
          cases e
    · cases g : goodN y with
      | true =>
        rw [g] at e
        cases e
      | false =>
        rw [g] at e
        cases e
        have q : addDue B z m.enc most heavy tags = some "BadKind" := by
          have e2 : tags.all goodN = false := by
            rw [← Bool.not_eq_true]
            intro q
            have := List.all_eq_true.mp q y hy
            rw [g] at this
            cases this
          unfold addDue
          rw [h, gz, gs, h2, e2]
          rfl
        rw [q] at hq
        exact hq
  · rintro ρ' th' ⟨rfl, ⟨o7, rfl⟩, hall⟩
    rw [List.take_length] at hall
    have q : addDue B z m.enc most heavy tags = none := by
      have e2 : tags.all goodN = true := List.all_eq_true.mpr hall
      unfold addDue
      rw [h, gz, gs, h2, e2]
      rfl
    rw [q] at hq
    refine sb_one (s_dsetS (D := kdK) j (u1 hr) (es_tup (esa_cons (Ev.s (ev_var 2) (esa_cons (Ev.s (ev_var 3) (esa_cons (Ev.s (ev_var 4) (esa_cons (Ev.s (ev_var 5) (esa_cons (es_tupleL t.tuple (es_sortedSet rfl (u100 hr) ta.sorted ta.set (ev_var 6) htl fun ts hm hl => ⟨_, rfl, esa_nil ⟨[shD m.enc, .int most, .bool turn, .int heavy, tagsD ts], rfl, by simp only [List.length_cons, List.length_nil]; decide, ?_⟩⟩)))))))))))))
    refine ⟨B.ra, B.kss, .inr z, _, _, vfld (vv 0) (book_fld j hj tb.c.c (tb.c.na _ (by decide))), ev_var 1, hj, book_put _ B (z := z) ⟨m, most, turn, heavy, ts⟩, ?_, ?_⟩
    · unfold Bok.kss
      rw [List.length_map]
      exact Nat.lt_of_le_of_lt hB (by decide)
    · have e := with_kss B z ⟨m, most, turn, heavy, ts⟩ hnew
      have q2 := hq m ts gm rfl hm
      have e3 : aput B.kss (.inr z) (.d (.tuple [shD m.enc, .int most, .bool turn, .int heavy, tagsD ts])) = (B.with z ⟨m, most, turn, heavy, ts⟩).kss := e
      rw [e3]
      exact q2
end
end G
end

section
set_option Elab.async false
set_option linter.all false
set_option maxRecDepth 100000
set_option maxHeartbeats 4000000
namespace G
open PySem PySem.Spec PyProof.Rows L2
/-! ### calls whose arguments may raise; taking things into groups and out -/
section
variable {X : Cx} {CA : Str → Addr} {Y : Wd} {ρ : Rho} {w : Y.W} {e : Expr} {es : List Expr} {pos p : Pos} {O : Sv → Y.W → Prop} {Ox : Str → Y.W → Prop}
theorem es_callDS {k : Nat} {x : Str} {rel : List PyData → Res → Prop} (fn : FnX X k x (lift CA (pmD rel))) (hr : Room k X.A) (h : EvSA X CA Y ρ w (e :: es) (fun svs w1 => ∃ ds o, svs = ds.map Sv.d ∧ rel ds o ∧ (∀ d, o = .ok d → O (.d d) w1) ∧ ∀ c, o = .ex c → Ox c w1) Ox)
    (hg : Gl X x := by rfl) (hdb : (x == ("__debug__" : Str)) = false := by decide)
    (he : starEach (e :: es) X.env = (false, eval e X.env) :: starEach es X.env := by rfl) (hpl : (backTo pos (starEach es X.env)).any (·.1) = false := by rfl) : EvS X CA Y ρ w (.Call (.Name x p) (e :: es) [] pos) O Ox := fun F L R H σ g i kk Q Wx tk q qx => by
  obtain ⟨f, fd, ps, fn, hm, hk, hb⟩ := fn.ex
  refine toE (pe_callS fn hr hg hm hk hb (fun τ => passAt tk τ) (pa_w _) hdb he hpl) (h F L R H σ g i kk _ Wx tk (fun svs w1 vs F1 R1 H1 o1 s1 i1 r1 k1 => ?_) qx)
  obtain ⟨ds, o, e1, hrel, ho, hx⟩ := o1
  subst e1
  refine ⟨F1, un L R1, k1.join, ds, o, rpA_of r1, hrel, ?_⟩
  cases o with
  | ok d => exact fun v F2 s2 r2 _ H2 k2 => q (.d d) w1 v F2 R1 H2 (ho d rfl) (s1.trans s2) (Y.mono s2 i1) r2 rfl (k2.part k1.lr)
  | ex c => exact fun F2 s2 _ H2 k2 => qx c w1 F2 R1 H2 (hx c rfl) (s1.trans s2) (Y.mono s2 i1) (k2.part k1.lr)
end
theorem grp_take {F R0 R : Hp} {ts w : List Thing} {g l : Nat} {u : Thing} (h : Sep F R0 w R) (hg : w[g]? = some (Grp ts)) (hl : w[l]? = some u) (hne : g ≠ l) : Sep F R0 ((w.set g (Grp (ts ++ [u]))).set l EmpT) R := by
  obtain ⟨c, h0, hc⟩ := h
  obtain ⟨d, hd⟩ := hc g _ hg
  have hd : ∀ (k : Nat) (t : Thing), ts[k]? = some t → t.P F (part (part R c g) d k) := hd
  refine ⟨fun a => if c a = some l then some g else c a, fun a o q => ?_, fun k t q => ?_⟩
  · obtain ⟨q1, q2⟩ := h0 a o q
    exact ⟨q1, by simp [q2]⟩
  · rcases set_at q with ⟨rfl, rfl⟩ | ⟨hk, q⟩
    · trivial
    rcases set_at q with ⟨rfl, rfl⟩ | ⟨hk2, q⟩
    · refine ⟨fun a => if c a = some l then some ts.length else (match d a with | some j => if j < ts.length then some j else none | none => none), fun j t e => ?_⟩
      by_cases hj : j < ts.length
      · rw [List.getElem?_append_left hj] at e
        refine t.mono (Same.refl F) (fun a o z => ?_) (hd j t e)
        have hda := part_some z
        rw [part_in hda] at z
        have hca := part_some z
        rw [part_in hca] at z
        have hnl : ¬ c a = some l := fun zz => hne (by rw [hca] at zz; exact Option.some.inj zz)
        rw [part_in, part_in]
        · exact z
        · simp only [if_neg hnl]
          exact hca
        · simp [if_neg hnl, hda, hj]
      · rw [List.getElem?_append_right (by omega)] at e
        have hj2 : j - ts.length = 0 := by
          have := (List.getElem?_eq_some_iff.mp e).1
          simp at this
          omega
        rw [hj2] at e
        have e : u = t := by simpa using e
        subst e
        have hjl : j = ts.length := by omega
        subst hjl
        refine u.mono (Same.refl F) (fun a o z => ?_) (hc l u hl)
        have hca := part_some z
        rw [part_in hca] at z
        rw [part_in, part_in]
        · exact z
        · simp [hca]
        · simp [hca]
    · refine t.mono (Same.refl F) (fun a o z => ?_) (hc k t q)
      have hca := part_some z
      rw [part_in hca] at z
      rw [part_in]
      · exact z
      · simp only [hca]
        rw [if_neg (fun zz => hk (Option.some.inj zz).symm)]
theorem erase_at {α : Type} {l : List α} {k i : Nat} {x : α} (h : (l.eraseIdx k)[i]? = some x) : l[if i < k then i else i + 1]? = some x := by
  rw [List.getElem?_eraseIdx] at h
  split at h <;> rename_i hh
  · rw [if_pos hh]
    exact h
  · rw [if_neg hh]
    exact h
theorem grp_drop {F R0 R : Hp} {ts w : List Thing} {g k : Nat} {u : Thing} (h : Sep F R0 w R) (hg : w[g]? = some (Grp ts)) (hk : ts[k]? = some u) : Sep F R0 (w.set g (Grp (ts.eraseIdx k)) ++ [u]) R := by
  obtain ⟨c, h0, hc⟩ := h
  obtain ⟨d, hd⟩ := hc g _ hg
  have hd : ∀ (k : Nat) (t : Thing), ts[k]? = some t → t.P F (part (part R c g) d k) := hd
  have hgl := (List.getElem?_eq_some_iff.mp hg).1
  refine ⟨fun a => if c a = some g then (if d a = some k then some w.length else some g) else (match c a with | some j => if j < w.length then some j else none | none => none), fun a o q => ?_, fun i t q => ?_⟩
  · obtain ⟨q1, q2⟩ := h0 a o q
    exact ⟨q1, by simp [q2]⟩
  · by_cases hi : i < w.length
    · rw [List.getElem?_append_left (by rw [List.length_set]; exact hi)] at q
      rcases set_at q with ⟨rfl, rfl⟩ | ⟨hne, q⟩
      · refine ⟨fun a => match d a with | some j => if j < k then some j else some (j - 1) | none => none, fun j t e => ?_⟩
        have e2 := erase_at e
        refine t.mono (Same.refl F) (fun a o z => ?_) (hd _ t e2)
        have hda := part_some z
        rw [part_in hda] at z
        have hca := part_some z
        rw [part_in hca] at z
        have hjk : (if j < k then j else j + 1) ≠ k := by split <;> omega
        rw [part_in, part_in]
        · exact z
        · simp only [hca, hda]
          rw [if_pos trivial, if_neg (fun zz => hjk (Option.some.inj zz))]
        · simp only [hda]
          by_cases hjk2 : j < k
          · simp [hjk2]
          · rw [if_neg hjk2, if_neg (by omega), Nat.add_sub_cancel]
      · refine t.mono (Same.refl F) (fun a o z => ?_) (hc i t q)
        have hca := part_some z
        rw [part_in hca] at z
        rw [part_in]
        · exact z
        · simp only [hca]
          rw [if_neg (fun zz => hne (Option.some.inj zz).symm), if_pos hi]
    · rw [List.getElem?_append_right (by rw [List.length_set]; omega), List.length_set] at q
      have hj2 : i - w.length = 0 := by
        have := (List.getElem?_eq_some_iff.mp q).1
        simp at this
        omega
      rw [hj2] at q
      have e : u = t := by simpa using q
      subst e
      have hil : i = w.length := by omega
      subst hil
      refine u.mono (Same.refl F) (fun a o z => ?_) (hd k u hk)
      have hda := part_some z
      rw [part_in hda] at z
      have hca := part_some z
      rw [part_in hca] at z
      rw [part_in]
      · exact z
      · simp [hca, hda]
section
variable {X : Cx} {CA : Str → Addr} {R0 : Hp} {ρ : Rho} {w : List Thing} {st : Stmt} {OS : Out (List Thing)}
theorem s1_seeX {α : Type} {w' : α → List Thing} (h : ∀ F R, Sep F R0 w R → ∃ x, Sep F R0 (w' x) R) (hs : ∀ x, S1 X CA (ThW R0) ρ (w' x) st OS) : S1 X CA (ThW R0) ρ w st OS := fun F L R H σ g i k D Wx tk m => by
  obtain ⟨x, i'⟩ := h F R i
  exact hs x F L R H σ g i' k D Wx tk m
theorem s1_post (h : S1 X CA (ThW R0) ρ w st (seeO R0 OS)) : S1 X CA (ThW R0) ρ w st OS := fun F L R H σ g i k D Wx tk m =>
  h F L R H σ g i k D Wx tk ⟨fun ρ' w' F' L' R' H' σ' o s' i' => by
      obtain ⟨w2, hs, o⟩ := o
      exact m.nx ρ' w2 F' L' R' H' σ' o s' (hs F' R' i'), fun sv w' v F' L' R' H' o s' i' => by
      obtain ⟨w2, hs, o⟩ := o
      exact m.rt sv w2 v F' L' R' H' o s' (hs F' R' i'), fun c ρ' w' F' L' R' H' σ' o s' i' => by
      obtain ⟨w2, hs, o⟩ := o
      exact m.ex c ρ' w2 F' L' R' H' σ' o s' (hs F' R' i'), fun ρ' w' F' L' R' H' σ' o s' i' => by
      obtain ⟨w2, hs, o⟩ := o
      exact m.bk ρ' w2 F' L' R' H' σ' o s' (hs F' R' i'), fun ρ' w' F' L' R' H' σ' o s' i' => by
      obtain ⟨w2, hs, o⟩ := o
      exact m.ct ρ' w2 F' L' R' H' σ' o s' (hs F' R' i')⟩
end
end G
end

section
set_option Elab.async false
set_option linter.all false
set_option maxRecDepth 100000
set_option maxHeartbeats 4000000
/-! ### bags, plain -/
namespace G
open PySem PySem.Spec PyProof.Rows L2 Sh
abbrev Ks := List (Str × Kd)
abbrev Cz := Int × Int
structure Pil where
  kind : Str
  many : Int
  turn : Nat
  row : Int
  col : Int
structure Bag where
  rows : Nat
  cols : Nat
  last : Int
  piles : List (Int × Pil)
def cellsZ (m : Mx) (t : Nat) (r c : Int) : List Cz := (Mx.turnN (t % 4) m).cells.map fun p => (r + (p.1 : Int), c + (p.2 : Int))
def cellsK (ks : Ks) (z : Str) (t : Nat) (r c : Int) : List Cz := match aget ks z with
  | some k => cellsZ k.m t r c
  | none => []
def cellsP (ks : Ks) (p : Pil) : List Cz := cellsK ks p.kind p.turn p.row p.col
def turnsK (k : Kd) : List Nat := if k.turn then turnsM k.m else [0]
def inside (b : Bag) (c : Cz) : Bool := (decide (0 ≤ c.1) && decide (c.1 < (b.rows : Int))) && (decide (0 ≤ c.2) && decide (c.2 < (b.cols : Int)))
def ownB (ks : Ks) (b : Bag) (c : Cz) : Option Int := (b.piles.find? fun q => decide (c ∈ cellsP ks q.2)).map (·.1)
def okOwn : Option Int → Option Int → Bool
  | none, _ => true
  | some n, but => decide (but = some n)
def gotD : Option Int → PyData → PyData
  | some n, _ => .int n
  | none, d => d
def cellOk (ks : Ks) (b : Bag) (but : Option Int) (c : Cz) : Bool := inside b c && okOwn (ownB ks b c) but
def isFree (ks : Ks) (b : Bag) (l : List Cz) (but : Option Int) : Bool := l.all (cellOk ks b but)
def fitsK (ks : Ks) (b : Bag) (k : Kd) (t : Nat) (r c : Int) (but : Option Int) : Bool := decide (t ∈ turnsK k) && isFree ks b (cellsZ k.m t r c) but
/-- all cells with their piles -/
def gridL (ks : Ks) (ps : List (Int × Pil)) : List (Cz × Int) := ps.flatMap fun q => (cellsP ks q.2).map fun c => (c, q.1)
structure GridOk (ks : Ks) (b : Bag) (gr : List (Cz × Int)) : Prop where
  pm : gr.Perm (gridL ks b.piles)
  nd : (gr.map (·.1)).Nodup
structure BagOk (ks : Ks) (b : Bag) : Prop where
  r1 : 1 ≤ b.rows
  r10 : b.rows ≤ 10
  c1 : 1 ≤ b.cols
  c10 : b.cols ≤ 10
  num : (b.piles.map (·.1)).Nodup
  le : ∀ q ∈ b.piles, 1 ≤ q.1 ∧ q.1 ≤ b.last
  last : 0 ≤ b.last
  pil : ∀ q ∈ b.piles, ∃ k, aget ks q.2.kind = some k ∧ k.m.Good ∧ q.2.turn ∈ turnsK k ∧ q.2.many ≤ k.most ∧ ∀ c ∈ cellsP ks q.2, inside b c = true
  dis : ((gridL ks b.piles).map (·.1)).Nodup
structure KsOk (ks : Ks) : Prop where
  g : ∀ p ∈ ks, p.2.m.Good
  lim : ∀ p ∈ ks, 1 ≤ p.2.most ∧ p.2.most ≤ 99 ∧ 0 ≤ p.2.heavy ∧ p.2.heavy ≤ 999
  nd : (ks.map (·.1)).Nodup
  len : ks.length ≤ 30
  ok : ∀ p ∈ ks, PyData.strOk p.1 = true
theorem mem_gridL {ks : Ks} {ps : List (Int × Pil)} {c : Cz} {n : Int} : (c, n) ∈ gridL ks ps ↔ ∃ p, (n, p) ∈ ps ∧ c ∈ cellsP ks p := by
  unfold gridL
  rw [List.mem_flatMap]
  constructor
  · rintro ⟨⟨n', p⟩, h1, h2⟩
    obtain ⟨c', h3, e⟩ := List.mem_map.mp h2
    cases e
    exact ⟨p, h1, h3⟩
  · rintro ⟨p, h1, h2⟩
    exact ⟨(n, p), h1, List.mem_map.mpr ⟨c, h2, rfl⟩⟩
theorem ownB_some {ks : Ks} {b : Bag} {c : Cz} {n : Int} (h : ownB ks b c = some n) : (c, n) ∈ gridL ks b.piles := by
  unfold ownB at h
  obtain ⟨q, h1, rfl⟩ := Option.map_eq_some_iff.mp h
  have h2 := List.find?_some h1
  have h3 := List.mem_of_find?_eq_some h1
  exact mem_gridL.mpr ⟨q.2, h3, of_decide_eq_true h2⟩
theorem ownB_none {ks : Ks} {b : Bag} {c : Cz} : ownB ks b c = none ↔ ∀ n, (c, n) ∉ gridL ks b.piles := by
  unfold ownB
  rw [Option.map_eq_none_iff, List.find?_eq_none]
  constructor
  · intro h n hm
    obtain ⟨p, h1, h2⟩ := mem_gridL.mp hm
    exact h _ h1 (decide_eq_true h2)
  · intro h q hq hd
    exact h q.1 (mem_gridL.mpr ⟨q.2, hq, of_decide_eq_true hd⟩)
theorem key_once {α β : Type} {l : List (α × β)} (nd : (l.map (·.1)).Nodup) {a : α} {x y : β} (h1 : (a, x) ∈ l) (h2 : (a, y) ∈ l) : x = y := by
  induction l with
  | nil => cases h1
  | cons p l ih =>
    rw [List.map_cons, List.nodup_cons] at nd
    rcases List.mem_cons.mp h1 with e1 | h1
    · rcases List.mem_cons.mp h2 with e2 | h2
      · rw [← e1] at e2
        cases e2
        rfl
      · exact absurd (List.mem_map.mpr ⟨_, h2, rfl⟩ : a ∈ l.map (·.1)) (by rw [show a = p.1 by rw [← e1]]; exact nd.1)
    · rcases List.mem_cons.mp h2 with e2 | h2
      · exact absurd (List.mem_map.mpr ⟨_, h1, rfl⟩ : a ∈ l.map (·.1)) (by rw [show a = p.1 by rw [← e2]]; exact nd.1)
      · exact ih nd.2 h1 h2
theorem ownB_iff {ks : Ks} {b : Bag} (dis : ((gridL ks b.piles).map (·.1)).Nodup) {c : Cz} {n : Int} : ownB ks b c = some n ↔ (c, n) ∈ gridL ks b.piles := by
  constructor
  · exact ownB_some
  · intro h
    cases e : ownB ks b c with
    | none => exact absurd h (ownB_none.mp e n)
    | some m => rw [key_once dis h (ownB_some e)]
theorem GridOk.dis {ks : Ks} {b : Bag} {gr : List (Cz × Int)} (h : GridOk ks b gr) : ((gridL ks b.piles).map (·.1)).Nodup := (h.pm.map (·.1)).nodup_iff.mp h.nd
theorem GridOk.get {ks : Ks} {b : Bag} {gr : List (Cz × Int)} (h : GridOk ks b gr) (c : Cz) : aget gr c = ownB ks b c := by
  cases e : ownB ks b c with
  | none =>
    rw [aget_none]
    intro hm
    obtain ⟨q, hq, rfl⟩ := List.mem_map.mp hm
    exact ownB_none.mp e q.2 (h.pm.mem_iff.mp hq)
  | some n => exact aget_of_mem h.nd (h.pm.mem_iff.mpr (ownB_some e))
theorem GridOk.len {ks : Ks} {b : Bag} {gr : List (Cz × Int)} (h : GridOk ks b gr) : gr.length = (gridL ks b.piles).length := h.pm.length_eq
/-! ### the things of a bag -/
/-- an entry: number, pile, the pile's object and its dict -/
structure Ent where
  n : Int
  p : Pil
  a : Addr
  dx : Addr
structure BagX where
  dx : Addr
  pd : Addr
  gd : Addr
  pl : List Ent
  gr : List (Cz × Int)
def pileF (p : Pil) : List (Str × Sv) := [("kind", .d (.str p.kind)), ("many", .d (.int p.many)), ("turn", .d (.int (p.turn : Int))), ("row", .d (.int p.row)), ("column", .d (.int p.col))]
def bagF (b : Bag) (bk pd gd : Addr) : List (Str × Sv) := [("book", .raw (.ref bk)), ("rows", .d (.int (b.rows : Int))), ("columns", .d (.int (b.cols : Int))), ("piles", .raw (.ref pd)), ("last", .d (.int b.last)), ("grid", .raw (.ref gd))]
abbrev plK (pl : List Ent) : List (L2.Key × Sv) := pl.map fun e => (.inl e.n, .raw (.ref e.a))
def zk (c : Cz) : List L2.Key := [.inl c.1, .inl c.2]
abbrev grK (gr : List (Cz × Int)) : List (List L2.Key × Sv) := gr.map fun q => (zk q.1, .d (.int q.2))
abbrev plT (Cp : Addr) (pl : List Ent) : List Thing := pl.map fun e => InsS Cp e.a e.dx (pileF e.p)
abbrev projE (pl : List Ent) : List (Int × Pil) := pl.map fun e => (e.n, e.p)
def bagThings (Cb Cp a bk : Addr) (b : Bag) (x : BagX) : List Thing := [InsS Cb a x.dx (bagF b bk x.pd x.gd), DicS kdK x.pd (plK x.pl), DicS kdT x.gd (grK x.gr), Grp (plT Cp x.pl)]
def BagT (Cb Cp a bk : Addr) (ks : Ks) (b : Bag) : Thing := ⟨fun F M => ∃ x : BagX, projE x.pl = b.piles ∧ GridOk ks b x.gr ∧ (Grp (bagThings Cb Cp a bk b x)).P F M, fun sF sM h => by
  obtain ⟨x, h1, h2, h3⟩ := h
  exact ⟨x, h1, h2, Thing.mono _ sF sM h3⟩⟩
def BagF (ks : Ks) (b : Bag) (x : BagX) : Prop := projE x.pl = b.piles ∧ GridOk ks b x.gr
theorem bag_open {F R0 R : Hp} {w : List Thing} {j : Nat} {Cb Cp a bk : Addr} {ks : Ks} {b : Bag} (h : Sep F R0 w R) (e : w[j]? = some (BagT Cb Cp a bk ks b)) : ∃ x : { x : BagX // BagF ks b x }, Sep F R0 (bagThings Cb Cp a bk b x.1 ++ w.set j EmpT) R := by
  have hjl := (List.getElem?_eq_some_iff.mp e).1
  obtain ⟨M, ⟨x, h1, h2, h3⟩, h4⟩ := h.get e
  obtain ⟨c, h0, hc⟩ := h
  obtain ⟨x, h1, h2, h3⟩ := hc j _ e
  refine ⟨⟨x, h1, h2⟩, ?_⟩
  have : Sep F R0 (w.set j (Grp (bagThings Cb Cp a bk b x))) R := ⟨c, h0, fun i t q => by
    rcases set_at q with ⟨rfl, rfl⟩ | ⟨hne, q⟩
    · exact h3
    · exact hc i t q⟩
  have h5 := grp_open this (getS _ hjl)
  rwa [List.set_set] at h5
theorem bag_close {F R0 R : Hp} {w : List Thing} {j : Nat} {Cb Cp a bk : Addr} {ks : Ks} {b : Bag} {x : BagX} (f : BagF ks b x) (h : Sep F R0 (bagThings Cb Cp a bk b x ++ w) R) : Sep F R0 (w.set j (BagT Cb Cp a bk ks b)) R := by
  obtain ⟨c, h0, hc⟩ := grp_close (i := j) h
  refine ⟨c, h0, fun i t q => ?_⟩
  rcases set_at q with ⟨rfl, rfl⟩ | ⟨hne, q⟩
  · have hjl : j < w.length := by
      have := (List.getElem?_eq_some_iff.mp q).1
      rwa [List.length_set] at this
    exact ⟨x, f.1, f.2, hc _ _ (getS _ hjl)⟩
  · exact hc i t (by rw [List.getElem?_set_ne hne]; exact q)
theorem insW_S0 {C a dx : Addr} (fss : List (Str × Sv)) : InsW (InsS C a dx fss) C a fss (InsS C a dx) := by
  refine ⟨fun F M ⟨fs, h1, _, h3⟩ => ⟨dx, fs, h1, h3⟩, fun F M dx' fs fs' fss' ⟨fs0, h1, h2, h3⟩ h4 r => ⟨fs', ?_, ?_, r⟩⟩
  · rw [h1] at h4
    cases h4
    exact upd_same
  · rw [upd_ne (fun z => by rw [z, h1] at h2; cases h2)]
    exact h2
theorem insW_grp {ts : List Thing} {k : Nat} {t : Thing} {C a : Addr} {fss : List (Str × Sv)} {u : List (Str × Sv) → Thing} (e : ts[k]? = some t) (hw : InsW t C a fss u) : InsW (Grp ts) C a fss fun fss' => Grp (ts.set k (u fss')) := by
  refine ⟨fun F M h => ?_, fun F M dx fs fs' fss' h h4 r => ?_⟩
  · obtain ⟨N, h1, h2⟩ := grp_get h e
    obtain ⟨dx, fs, h3, h4⟩ := hw.is F N h1
    exact ⟨dx, fs, h2 _ _ h3, h4⟩
  · obtain ⟨c, hc⟩ := h
    have h1 := hc k t e
    obtain ⟨dx0, fs0, h3, _⟩ := hw.is F _ h1
    have hca := part_some h3
    have h3' := h3
    rw [part_in hca, h4] at h3'
    cases h3'
    refine ⟨c, fun i t' q => ?_⟩
    rcases set_at q with ⟨rfl, rfl⟩ | ⟨hne, q⟩
    · have h5 := hw.put F _ _ _ fs' fss' h1 h3 r
      refine Thing.mono _ (Same.refl F) (fun b o z => ?_) h5
      by_cases hb : b = a
      · subst hb
        rw [upd_same] at z
        rw [part_in hca, upd_same]
        exact z
      · rw [upd_ne hb] at z
        have hcb := part_some z
        rw [part_in hcb] at z
        rw [part_in hcb, upd_ne hb]
        exact z
    · refine t'.mono (Same.refl F) (fun b o z => ?_) (hc i t' q)
      have hcb := part_some z
      rw [part_in hcb] at z
      rw [part_in hcb, upd_ne (fun zz => by rw [zz, hca] at hcb; exact hne (Option.some.inj hcb))]
      exact z
/-! reading a bag -/
section
variable {K : PySem.W.Frag} {Cb Cp a bk : Addr} {ks : Ks} {b : Bag} {w : List Thing}
theorem bag_fld {f : Str} {sv : Sv} (j : Nat) (e : w[j]? = some (BagT Cb Cp a bk ks b)) (c : Cls K Cb) (na : NoAttr K Cb f) (hf : ∀ pd gd, aget (bagF b bk pd gd) f = some sv) : Fld K w a f sv := by
  have ho : isOwn sv = false := by
    have := aget_mem (hf 0 0)
    simp only [bagF, List.mem_cons, List.not_mem_nil, or_false] at this
    rcases this with z | z | z | z | z | z <;> (cases z; rfl)
  refine ⟨ho, fun F R0 R H s sf sr => ?_⟩
  obtain ⟨M, ⟨x, _, _, h3⟩, h2⟩ := s.get e
  obtain ⟨N, ⟨fs, h5, _, h7⟩, h6⟩ := grp_get h3 (i := 0) rfl
  rcases h7.get f with ⟨z, _⟩ | ⟨sv', v, e1, e2, e3, e4⟩
  · rw [hf] at z
    cases z
  · rw [hf] at e1
    cases e1
    exact ⟨Cb, x.dx, fs, v, sr _ _ (h2 _ _ (h6 _ _ h5)), c, na, by rw [lookup_aget]; exact e2, e3⟩
abbrev bagNames : List Str := ["book", "rows", "columns", "piles", "last", "grid"]
theorem bag_is (j : Nat) (e : w[j]? = some (BagT Cb Cp a bk ks b)) : IsI w a Cb bagNames := fun F R0 R H s sf sr => by
  obtain ⟨M, ⟨x, _, _, h3⟩, h2⟩ := s.get e
  obtain ⟨N, ⟨fs, h5, _, h7⟩, h6⟩ := grp_get h3 (i := 0) rfl
  exact ⟨x.dx, fs, sr _ _ (h2 _ _ (h6 _ _ h5)), h7.keys.trans rfl⟩
end
theorem zk_inj {c d : Cz} (h : zk c = zk d) : c = d := by
  unfold zk at h
  simp only [List.cons.injEq, Sum.inl.injEq, and_true] at h
  exact Prod.ext h.1 h.2
theorem grK_get (gr : List (Cz × Int)) (c : Cz) : aget (grK gr) (zk c) = (aget gr c).map fun n => .d (.int n) := aget_map zk (fun n : Int => Sv.d (.int n)) (fun _ _ h => zk_inj h) c gr
theorem zk_enc (c : Cz) : kdT.enc (zk c) = prI c := rfl
/-- the entry of a number -/
theorem ent_of {n : Int} {p : Pil} : ∀ {pl : List Ent}, aget (projE pl) n = some p → ∃ (k : Nat) (e : Ent), pl[k]? = some e ∧ e.n = n ∧ e.p = p ∧ aget (plK pl) (.inl n) = some (.raw (.ref e.a))
  | [], h => by cases h
  | x :: pl, h => by
    unfold projE at h
    rw [List.map_cons, aget_cons] at h
    by_cases hx : x.n = n
    · rw [if_pos hx] at h
      cases h
      refine ⟨0, x, rfl, hx, rfl, ?_⟩
      unfold plK
      rw [List.map_cons, aget_cons, if_pos (by rw [hx])]
    · rw [if_neg hx] at h
      obtain ⟨k, e, h1, h2, h3, h4⟩ := ent_of h
      refine ⟨k + 1, e, h1, h2, h3, ?_⟩
      unfold plK
      rw [List.map_cons, aget_cons, if_neg (fun z => hx (Sum.inl.inj z))]
      exact h4
theorem plK_some (pl : List Ent) (n : Int) : (aget (plK pl) (.inl n)).isSome = (aget (projE pl) n).isSome := by
  induction pl with
  | nil => rfl
  | cons x pl ih =>
    unfold plK projE
    rw [List.map_cons, List.map_cons, aget_cons, aget_cons]
    by_cases hx : x.n = n
    · rw [if_pos (by rw [hx]), if_pos hx]
      rfl
    · rw [if_neg (fun z => hx (Sum.inl.inj z)), if_neg hx]
      exact ih
end G
end

section
set_option Elab.async false
set_option linter.all false
set_option maxRecDepth 100000
set_option maxHeartbeats 4000000
/-! ### a bag seen; what is told of it -/
namespace G
open PySem PySem.Spec PyProof.Rows L2 Sh
def czD (l : List Cz) : PyData := .list (l.map prI)
def optD : Option Int → PyData
  | none => .none
  | some n => .int n
abbrev pileNames : List Str := ["kind", "many", "turn", "row", "column"]
def pileD (p : Pil) : PyData := .tuple [.str p.kind, .int p.many, .int (p.turn : Int), .int p.row, .int p.col]
structure TxtG (K : PySem.W.Frag) (mg : Str → Option Value) (CA : Str → Addr) : Prop where
  c : ClsT K mg CA "Bag" bagNames
  p : ClsT K mg CA "Pile" pileNames
  b : ClsT K mg CA "Book" ["rows"]
  num : ExcT K mg CA "BadNumber"
  place : ExcT K mg CA "BadPlace"
  pile : ExcT K mg CA "BadPile"
  kind : ExcT K mg CA "BadKind"
  ms : ∃ t, mg "MOST_SIDE_bags" = some (.int 10 t)
structure BagV (K : PySem.W.Frag) (CA : Str → Addr) (w : List Thing) (a : Addr) (B : Bok) (b : Bag) (x : BagX) : Prop where
  is : IsI w a (CA "Bag") bagNames
  fld : ∀ f sv, aget (bagF b B.b x.pd x.gd) f = some sv → Fld K w a f sv
  pd : DicR kdK w x.pd (plK x.pl)
  gd : DicH kdT w x.gd (grK x.gr)
  pis : ∀ e ∈ x.pl, IsI w e.a (CA "Pile") pileNames
  pf : ∀ e ∈ x.pl, ∀ f sv, aget (pileF e.p) f = some sv → Fld K w e.a f sv
  f : BagF B.rows b x
  bk : ∃ i : Nat, w[i]? = some (BookT (CA "Book") B)
  ok : BagOk B.rows b
  good : KsOk B.rows
/-- a bag and its book in the list of things -/
structure InBag (CA : Str → Addr) (w : List Thing) (a : Addr) (B : Bok) (b : Bag) (j i : Nat) : Prop where
  bag : w[j]? = some (BagT (CA "Bag") (CA "Pile") a B.b B.rows b)
  book : w[i]? = some (BookT (CA "Book") B)
  ne : i ≠ j
  ok : BagOk B.rows b
  good : KsOk B.rows
theorem InBag.set {CA : Str → Addr} {w : List Thing} {a : Addr} {B : Bok} {b b' : Bag} {j i : Nat} (h : InBag CA w a B b j i) (ok : BagOk B.rows b') : InBag CA (w.set j (BagT (CA "Bag") (CA "Pile") a B.b B.rows b')) a B b' j i :=
  ⟨getS _ (List.getElem?_eq_some_iff.mp h.bag).1, by rw [List.getElem?_set_ne (Ne.symm h.ne)]; exact h.book, h.ne, ok, h.good⟩
theorem InBag.app {CA : Str → Addr} {w v : List Thing} {a : Addr} {B : Bok} {b : Bag} {j i : Nat} (h : InBag CA w a B b j i) : InBag CA (w ++ v) a B b j i :=
  ⟨by rw [List.getElem?_append_left (List.getElem?_eq_some_iff.mp h.bag).1]; exact h.bag, by rw [List.getElem?_append_left (List.getElem?_eq_some_iff.mp h.book).1]; exact h.book, h.ne, h.ok, h.good⟩
section
variable {K : PySem.W.Frag} {mg : Str → Option Value} {CA : Str → Addr} {a : Addr} {B : Bok} {b : Bag} {x : BagX}
theorem bagNames_mem {f : Str} {sv : Sv} {bk pd gd : Addr} (h : aget (bagF b bk pd gd) f = some sv) : f ∈ bagNames := by
  have := List.mem_map_of_mem (f := (·.1)) (aget_mem h)
  exact this
theorem pileNames_mem {p : Pil} {f : Str} {sv : Sv} (h : aget (pileF p) f = some sv) : f ∈ pileNames := by
  have := List.mem_map_of_mem (f := (·.1)) (aget_mem h)
  exact this
theorem bagF_own {f : Str} {sv : Sv} {bk pd gd : Addr} (h : aget (bagF b bk pd gd) f = some sv) : isOwn sv = false := by
  have := aget_mem h
  simp only [bagF, List.mem_cons, List.not_mem_nil, or_false] at this
  rcases this with z | z | z | z | z | z <;> (cases z; rfl)
theorem pileF_own {p : Pil} {f : Str} {sv : Sv} (h : aget (pileF p) f = some sv) : isOwn sv = false := by
  have := aget_mem h
  simp only [pileF, List.mem_cons, List.not_mem_nil, or_false] at this
  rcases this with z | z | z | z | z <;> (cases z; rfl)
theorem bagV_of (t : TxtG K mg CA) {W : List Thing} {i : Nat} (h0 : W[0]? = some (InsS (CA "Bag") a x.dx (bagF b B.b x.pd x.gd))) (h1 : DicR kdK W x.pd (plK x.pl)) (h2 : DicH kdT W x.gd (grK x.gr)) (h3 : W[3]? = some (Grp (plT (CA "Pile") x.pl))) (hb : W[i]? = some (BookT (CA "Book") B)) (f : BagF B.rows b x) (ok : BagOk B.rows b) (good : KsOk B.rows) : BagV K CA W a B b x where
  is := isI_of 0 h0 (insW_S0 _)
  fld := fun f sv hf => fld_of 0 h0 (insW_S0 _) t.c.c (t.c.na f (bagNames_mem hf)) hf (bagF_own hf)
  pd := h1
  gd := h2
  pis := fun e he => by
    obtain ⟨k, hk⟩ := List.getElem?_of_mem he
    exact isI_of 3 h3 (insW_grp (k := k) (t := InsS (CA "Pile") e.a e.dx (pileF e.p)) (by simp [hk]) (insW_S0 _))
  pf := fun e he f sv hf => by
    obtain ⟨k, hk⟩ := List.getElem?_of_mem he
    exact fld_of 3 h3 (insW_grp (k := k) (t := InsS (CA "Pile") e.a e.dx (pileF e.p)) (by simp [hk]) (insW_S0 _)) t.p.c (t.p.na f (pileNames_mem hf)) hf (pileF_own hf)
  f := f
  bk := ⟨i, hb⟩
  ok := ok
  good := good
/-- the opened list -/
abbrev opB (CA : Str → Addr) (w : List Thing) (a : Addr) (B : Bok) (b : Bag) (j : Nat) (x : BagX) : List Thing := bagThings (CA "Bag") (CA "Pile") a B.b b x ++ w.set j EmpT
theorem bagV_open (t : TxtG K mg CA) {w : List Thing} {j i : Nat} (h : InBag CA w a B b j i) (f : BagF B.rows b x) : BagV K CA (opB CA w a B b j x) a B b x :=
  bagV_of t rfl (dicH_of 1 rfl).r (dicH_of 2 rfl) rfl (i := i + 4) (by
    show (w.set j EmpT)[i]? = _
    rw [List.getElem?_set_ne (Ne.symm h.ne)]
    exact h.book) f h.ok h.good
theorem opB_close {w : List Thing} {j i : Nat} {F R0 R : Hp} (h : InBag CA w a B b j i) (f : BagF B.rows b x) (s : Sep F R0 (opB CA w a B b j x) R) : Sep F R0 w R := by
  have h2 := bag_close (j := j) f s
  rwa [set_back h.bag] at h2
theorem opB_closeN {w : List Thing} {j : Nat} {F R0 R : Hp} {b' : Bag} {x' : BagX} (f : BagF B.rows b' x') (s : Sep F R0 (bagThings (CA "Bag") (CA "Pile") a B.b b' x' ++ w.set j EmpT) R) : Sep F R0 (w.set j (BagT (CA "Bag") (CA "Pile") a B.b B.rows b')) R := by
  have h2 := bag_close (j := j) f s
  rwa [List.set_set] at h2
end
section
variable {X : Cx} {CA : Str → Addr} {R0 : Hp} {ρ : Rho} {w : List Thing} {a : Addr} {B : Bok} {b : Bag} {j i : Nat} {e : Expr} {O : Sv → List Thing → Prop} {Ox : Str → List Thing → Prop}
theorem ev_view {d : PyData} (h : InBag CA w a B b j i) (hs : ∀ x, BagF B.rows b x → Ev X ((ThW R0).om (opB CA w a B b j x)) ρ e d) : Ev X ((ThW R0).om w) ρ e d :=
  ev_seeX (α := { x : BagX // BagF B.rows b x }) (w' := fun x => opB CA w a B b j x.1) (fun F R s => bag_open s h.bag) (fun x F R s => opB_close h x.2 s) (fun x => hs x.1 x.2)
theorem et_view {v : Bool} (h : InBag CA w a B b j i) (hs : ∀ x, BagF B.rows b x → EvT X ((ThW R0).om (opB CA w a B b j x)) ρ e v) : EvT X ((ThW R0).om w) ρ e v :=
  et_seeX (α := { x : BagX // BagF B.rows b x }) (w' := fun x => opB CA w a B b j x.1) (fun F R s => bag_open s h.bag) (fun x F R s => opB_close h x.2 s) (fun x => hs x.1 x.2)
theorem es_view (h : InBag CA w a B b j i) (hs : ∀ x, BagF B.rows b x → EvS X CA (ThW R0) ρ (opB CA w a B b j x) e (fun sv w1 => w1 = opB CA w a B b j x ∧ O sv w) (fun c w1 => w1 = opB CA w a B b j x ∧ Ox c w)) : EvS X CA (ThW R0) ρ w e O Ox :=
  es_seeX (α := { x : BagX // BagF B.rows b x }) (w' := fun x => opB CA w a B b j x.1) (fun F R s => bag_open s h.bag) fun x => es_post (EvS.imp (hs x.1 x.2) (fun sv w1 z => ⟨w, fun F R s => by rw [z.1] at s; exact opB_close h x.2 s, z.2⟩) (fun c w1 z => ⟨w, fun F R s => by rw [z.1] at s; exact opB_close h x.2 s, z.2⟩))
end
/-! reading rules over a bag seen -/
section
variable {X : Cx} {CA : Str → Addr} {R0 : Hp} {ρ : Rho} {w : List Thing} {a : Addr} {B : Bok} {b : Bag} {x : BagX} {o ne e c : Expr} {p1 p2 p3 p4 : Pos} {n : Int} {p : Pil}
theorem vb {f : Str} {sv : Sv} (v : BagV X.K CA w a B b x) (ho : EvV X ((ThW R0).om w) ρ o (.raw (.ref a))) (hf : aget (bagF b B.b x.pd x.gd) f = some sv) (hb : attributeBase o f X.env (eval o X.env) = eval o X.env := by rfl) : EvV X ((ThW R0).om w) ρ (.Attribute o f p1) sv := vfld ho (v.fld f sv hf) hb
theorem vpile (v : BagV X.K CA w a B b x) (hu : X.A.units + 1 < cLine) (ho : EvV X ((ThW R0).om w) ρ o (.raw (.ref a))) (hn : Ev X ((ThW R0).om w) ρ ne (.int n)) {en : Ent} (h4 : aget (plK x.pl) (.inl n) = some (.raw (.ref en.a))) (hb : attributeBase o "piles" X.env (eval o X.env) = eval o X.env := by rfl) (hs : PlainIx ne := by exact fun _ _ => rfl) :
    EvV X ((ThW R0).om w) ρ (.Subscript (.Attribute o "piles" p1) ne p2) (.raw (.ref en.a)) := vdget (D := kdK) (k := .inl n) hu (vb v ho rfl hb) hn v.pd h4 hs
theorem ev_pile {f : Str} {d : PyData} (v : BagV X.K CA w a B b x) (hu : X.A.units + 1 < cLine) (hp : aget b.piles n = some p) (hf : aget (pileF p) f = some (.d d)) (ho : EvV X ((ThW R0).om w) ρ o (.raw (.ref a))) (hn : Ev X ((ThW R0).om w) ρ ne (.int n)) (hb : attributeBase o "piles" X.env (eval o X.env) = eval o X.env := by rfl) (hs : PlainIx ne := by exact fun _ _ => rfl)
    (hb2 : attributeBase (.Subscript (.Attribute o "piles" p1) ne p2) f X.env (eval (.Subscript (.Attribute o "piles" p1) ne p2) X.env) = eval (.Subscript (.Attribute o "piles" p1) ne p2) X.env := by rfl) : Ev X ((ThW R0).om w) ρ (.Attribute (.Subscript (.Attribute o "piles" p1) ne p2) f p3) d := by
  obtain ⟨k, en, h1, h2, h3, h4⟩ := ent_of (pl := x.pl) (by rw [v.f.1]; exact hp)
  exact EvV.dat (vfld (vpile v hu ho hn h4 hb hs) (v.pf en (List.mem_of_getElem? h1) f _ (by rw [h3]; exact hf)) hb2)
theorem et_pin (v : BagV X.K CA w a B b x) (hu : X.A.units + 1 < cLine) (ho : EvV X ((ThW R0).om w) ρ o (.raw (.ref a))) (hn : Ev X ((ThW R0).om w) ρ ne (.int n)) (hb : attributeBase o "piles" X.env (eval o X.env) = eval o X.env := by rfl) (hm : behindInMarks .NotIn (.Attribute o "piles" p1) = false := by rfl) :
    EvT X ((ThW R0).om w) ρ (.Compare ne [.NotIn] [.Attribute o "piles" p1] p2) (!(aget b.piles n).isSome) := EvT.is (et_dnotin (D := kdK) (k := .inl n) hu hn (vb v ho rfl hb) v.pd hm) (by rw [plK_some, v.f.1])
theorem ev_grid {cz : Cz} {dd : PyData} (v : BagV X.K CA w a B b x) (hu : X.A.units + 1 < cLine) (ho : EvV X ((ThW R0).om w) ρ o (.raw (.ref a))) (hk : Ev X ((ThW R0).om w) ρ e (prI cz)) (hd : Ev X ((ThW R0).om w) ρ c dd) (hb : attributeBase o "grid" X.env (eval o X.env) = eval o X.env := by rfl) (m : M2 X (.Attribute o "grid" p1) "get" p2 e c p3 := by exact ⟨rfl, rfl, rfl, rfl⟩) :
    Ev X ((ThW R0).om w) ρ (.Call (.Attribute (.Attribute o "grid" p1) "get" p2) [e, c] [] p3) (gotD (ownB B.rows b cz) dd) :=
  EvV.dat (vdgetD (D := kdT) (k := zk cz) hu (vb v ho rfl hb) hk (Ev.v hd) v.gd.r (by
    rw [grK_get, v.f.2.get]
    cases ownB B.rows b cz <;> rfl) m)
end
/-! ### the defs that read -/
def cellsR (K : PySem.W.Frag) (CA : Str → Addr) : List Sv → List Thing → ResS → Prop := fun svs w r => ∃ (a : Addr) (B : Bok) (i : Nat) (z : Str) (t : Nat) (ro co : Int), svs = [.raw (.ref a), .d (.str z), .d (.int (t : Int)), .d (.int ro), .d (.int co)] ∧ Fld K w a "book" (.raw (.ref B.b)) ∧ w[i]? = some (BookT (CA "Book") B) ∧ (∀ p ∈ B.rows, p.2.m.Good) ∧
  r = match aget B.rows z with
    | some k => .ok (.d (czD (cellsZ k.m t ro co)))
    | none => .ex "BadKind"
theorem cellsZ_D (m : Mx) (t : Nat) (r c : Int) : PyData.list ((Mx.turnN (t % 4) m).cells.map fun p => prI (r + (p.1 : Int), c + (p.2 : Int))) = czD (cellsZ m t r c) := by
  unfold czD cellsZ
  rw [List.map_map]
  rfl
section
variable {P : Program} {w : World} {K : PySem.W.Frag} {mg : Str → Option Value} {base : Heap} {CA : Str → Addr}
abbrev BShapeF (P : Program) (w : World) (K : PySem.W.Frag) (mg : Str → Option Value) (base : Heap) (CA : Str → Addr) : Prop := FnM P w K mg base 2 (CA "Book") "shape" (lift CA (pmW (rdo (askR (CA "Book") fun k => shD k.m.enc))))
abbrev BMostF (P : Program) (w : World) (K : PySem.W.Frag) (mg : Str → Option Value) (base : Heap) (CA : Str → Addr) : Prop := FnM P w K mg base 2 (CA "Book") "most" (lift CA (pmW (rdo (askR (CA "Book") fun k => .int k.most))))
abbrev BTurnsF (P : Program) (w : World) (K : PySem.W.Frag) (mg : Str → Option Value) (base : Heap) (CA : Str → Addr) : Prop := FnM P w K mg base 4 (CA "Book") "turns" (lift CA (pmW (rdo (turnsR (CA "Book")))))
abbrev CellsOfF (P : Program) (w : World) (K : PySem.W.Frag) (mg : Str → Option Value) (base : Heap) (CA : Str → Addr) : Prop := FnM P w K mg base 3 (CA "Bag") "cells_of" (lift CA (pmW (rdo (cellsR K CA))))
theorem ok_cells_of (tg : TxtG K mg CA) (fsh : BShapeF P w K mg base CA) (ft : TurnedF P w K mg base CA) (fc : CellsF P w K mg base CA) (D : MethT K CA "Bag" "cells_of" "Bag.cells_of" T.s_Bag_cells_of) : CellsOfF P w K mg base CA := by
  refine mkM D T.sc_Bag_cells_of ?_ (fun f cdv A outer s H E R0 svs th Q hr h => ?_) fun _ _ _ _ _ _ us hl => match us, hl with | [_, _, _, _, _], _ => rfl
  · rintro svs th Q ⟨_, ⟨_, _, _, _, _, _, _, rfl, _⟩, _⟩
    rfl
  obtain ⟨r, ⟨a, B, i, z, t, ro, co, rfl, hf, hi, hg, rfl⟩, hq⟩ := h
  have nd := T.sc_Bag_cells_of.nd
  cases ek : aget B.rows z with
  | none =>
    rw [ek] at hq
    refine sb_cons (s_asg 5 nd (es_callDS fc hr (esa_cons (es_callDS ft hr (esa_cons (emeth fsh hr tg.b.c (vfld (vv 0) hf) (book_is i hi) (va_one (vv 1)) ⟨_, ⟨i, B, z, rfl, hi, rfl⟩, ?_⟩))))))
    rw [ek]
    exact hq
  | some k =>
    rw [ek] at hq
    have g := hg _ (aget_mem ek)
    have gt := g.turnN (t % 4)
    refine sb_cons (s_asg 5 nd (Ev.s (d := cellsD (Mx.turnN (t % 4) k.m).cells) (ev_call fc hr (ea_one (ev_call ft hr (ea_cons (EvV.dat (vmeth fsh hr tg.b.c (vfld (vv 0) hf) (book_is i hi) (va_one (vv 1)) ⟨i, B, z, rfl, hi, by rw [ek]⟩)) (ea_one (ev_var 2))) (turned_good g t))) (cells_good gt)) ?_))
    refine sb_one (s_ret (Ev.s (d := czD (cellsZ k.m t ro co)) (Ev.is (ev_lcp (own := [("down", 6), ("right", 7)]) rfl nd (blkOk_by (N := T.N_Bag_cells_of) (sc := defScope T.s_Bag_cells_of) (by decide +kernel))
      (lc_map (Mx.turnN (t % 4) k.m).cells prN (fun p => prI (ro + (p.1 : Int), co + (p.2 : Int))) (fun p => _) (EvI.c (ei_list (ev_var 5))) (Nat.lt_of_le_of_lt (cells_len gt) (by decide))
        (fun _ _ _ _ _ p hp => tg_tup rfl (tgs_cons (tg_name 6 nd (by decide)) (tgs_cons (tg_name 7 nd (by decide)) tgs_nil)))
        (fun _ _ _ _ _ p hp => ev_tup (ea_cons (ev_add (ev_var 3) (ev_var 6)) (ea_cons (ev_add (ev_var 4) (ev_var 7)) ea_nil))))) (cellsZ_D _ _ _ _)) hq))
end
end G
end

section
set_option Elab.async false
set_option linter.all false
set_option maxRecDepth 100000
set_option maxHeartbeats 4000000
/-! ### a bag: the defs that change nothing -/
namespace G
open PySem PySem.Spec PyProof.Rows L2 Sh
def freeR (K : PySem.W.Frag) (CA : Str → Addr) : List Sv → List Thing → ResS → Prop := fun svs w r => ∃ (a : Addr) (B : Bok) (b : Bag) (x : BagX) (l : List Cz) (but : Option Int), svs = [.raw (.ref a), .d (czD l), .d (optD but)] ∧ BagV K CA w a B b x ∧ r = .ok (.d (.bool (isFree B.rows b l but)))
def fitsR (K : PySem.W.Frag) (CA : Str → Addr) : List Sv → List Thing → ResS → Prop := fun svs w r => ∃ (a : Addr) (B : Bok) (b : Bag) (x : BagX) (z : Str) (t : Nat) (ro co : Int), svs = [.raw (.ref a), .d (.str z), .d (.int (t : Int)), .d (.int ro), .d (.int co)] ∧ BagV K CA w a B b x ∧
  r = match aget B.rows z with
    | some k => .ok (.d (.bool (fitsK B.rows b k t ro co none)))
    | none => .ex "BadKind"
/-- how many may make a pile -/
def manyRes (ks : Ks) (z : Str) (m : Int) : ResS := match aget ks z with
  | some k => if 1 ≤ m ∧ m ≤ k.most then .ok (.d .none) else .ex "BadNumber"
  | none => .ex "BadKind"
def manyR (K : PySem.W.Frag) (CA : Str → Addr) : List Sv → List Thing → ResS → Prop := fun svs w r => ∃ (a : Addr) (B : Bok) (b : Bag) (x : BagX) (z : Str) (m : Int), svs = [.raw (.ref a), .d (.str z), .d (.int m)] ∧ BagV K CA w a B b x ∧ r = manyRes B.rows z m
def needR (K : PySem.W.Frag) (CA : Str → Addr) : List Sv → List Thing → ResS → Prop := fun svs w r => ∃ (a : Addr) (B : Bok) (b : Bag) (x : BagX) (n : Int), svs = [.raw (.ref a), .d (.int n)] ∧ BagV K CA w a B b x ∧ r = if (aget b.piles n).isSome then .ok (.d .none) else .ex "BadPile"
def pileR (K : PySem.W.Frag) (CA : Str → Addr) : List Sv → List Thing → ResS → Prop := fun svs w r => ∃ (a : Addr) (B : Bok) (b : Bag) (x : BagX) (n : Int), svs = [.raw (.ref a), .d (.int n)] ∧ BagV K CA w a B b x ∧
  r = match aget b.piles n with
    | some p => .ok (.d (pileD p))
    | none => .ex "BadPile"
def ptoldR (K : PySem.W.Frag) (CA : Str → Addr) : List Sv → List Thing → ResS → Prop := fun svs w r => ∃ (pa : Addr) (p : Pil), svs = [.raw (.ref pa)] ∧ (∀ f sv, aget (pileF p) f = some sv → Fld K w pa f sv) ∧ r = .ok (.d (pileD p))
def firstP (ks : Ks) (p : Pil) : Cz := (cellsP ks p).headD (0, 0)
def placeR (K : PySem.W.Frag) (CA : Str → Addr) : List Sv → List Thing → ResS → Prop := fun svs w r => ∃ (a : Addr) (B : Bok) (b : Bag) (x : BagX) (n : Int) (p : Pil), svs = [.raw (.ref a), .d (.int n)] ∧ BagV K CA w a B b x ∧ aget b.piles n = some p ∧ r = .ok (.d (prI (firstP B.rows p)))
def fstN (ks : Ks) (b : Bag) (n : Int) : Cz := match aget b.piles n with
  | some p => firstP ks p
  | none => (0, 0)
def numsB (ks : Ks) (b : Bag) : List Int := (b.piles.map (·.1)).mergeSort fun n m => leI (fstN ks b n) (fstN ks b m)
def numsR (K : PySem.W.Frag) (CA : Str → Addr) : List Sv → List Thing → ResS → Prop := fun svs w r => ∃ (a : Addr) (B : Bok) (b : Bag) (x : BagX), svs = [.raw (.ref a)] ∧ BagV K CA w a B b x ∧ r = .ok (.d (.list ((numsB B.rows b).map PyData.int)))
def atR (K : PySem.W.Frag) (CA : Str → Addr) : List Sv → List Thing → ResS → Prop := fun svs w r => ∃ (a : Addr) (B : Bok) (b : Bag) (x : BagX) (ro co : Int), svs = [.raw (.ref a), .d (.int ro), .d (.int co)] ∧ BagV K CA w a B b x ∧ r = if inside b (ro, co) then .ok (.d (optD (ownB B.rows b (ro, co)))) else .ex "BadPlace"
def countB (b : Bag) (z : Str) : Int := ((b.piles.filter fun q => decide (q.2.kind = z)).map fun q => q.2.many).sum
def countR (K : PySem.W.Frag) (CA : Str → Addr) : List Sv → List Thing → ResS → Prop := fun svs w r => ∃ (a : Addr) (B : Bok) (b : Bag) (x : BagX) (z : Str), svs = [.raw (.ref a), .d (.str z)] ∧ BagV K CA w a B b x ∧ r = if (aget B.rows z).isSome then .ok (.d (.int (countB b z))) else .ex "BadKind"
def countsL (ks : Ks) (b : Bag) : List Str := (sortS (ks.map (·.1))).filter fun z => decide (0 < countB b z)
def countsD (ks : Ks) (b : Bag) : PyData := .list ((countsL ks b).map fun z => .tuple [.str z, .int (countB b z)])
def countsR (K : PySem.W.Frag) (CA : Str → Addr) : List Sv → List Thing → ResS → Prop := fun svs w r => ∃ (a : Addr) (B : Bok) (b : Bag) (x : BagX), svs = [.raw (.ref a)] ∧ BagV K CA w a B b x ∧ r = .ok (.d (countsD B.rows b))
def heavyOf (ks : Ks) (z : Str) : Int := match aget ks z with
  | some k => k.heavy
  | none => 0
def weightB (ks : Ks) (b : Bag) : Int := (b.piles.map fun q => heavyOf ks q.2.kind * q.2.many).sum
def weighR (K : PySem.W.Frag) (CA : Str → Addr) : List Sv → List Thing → ResS → Prop := fun svs w r => ∃ (a : Addr) (B : Bok) (b : Bag) (x : BagX), svs = [.raw (.ref a)] ∧ BagV K CA w a B b x ∧ r = .ok (.d (.int (weightB B.rows b)))
def freeNR (K : PySem.W.Frag) (CA : Str → Addr) : List Sv → List Thing → ResS → Prop := fun svs w r => ∃ (a : Addr) (B : Bok) (b : Bag) (x : BagX), svs = [.raw (.ref a)] ∧ BagV K CA w a B b x ∧ r = .ok (.d (.int ((b.rows : Int) * (b.cols : Int) - ((gridL B.rows b.piles).length : Int))))
def shownD (ks : Ks) (b : Bag) : PyData := .list ((List.range b.rows).map fun r : Nat => .list ((List.range b.cols).map fun c : Nat => .int ((ownB ks b ((r : Int), (c : Int))).getD 0)))
def shownR (K : PySem.W.Frag) (CA : Str → Addr) : List Sv → List Thing → ResS → Prop := fun svs w r => ∃ (a : Addr) (B : Bok) (b : Bag) (x : BagX), svs = [.raw (.ref a)] ∧ BagV K CA w a B b x ∧ r = .ok (.d (shownD B.rows b))
def pileOf (b : Bag) (n : Int) : Pil := (aget b.piles n).getD ⟨"", 0, 0, 0, 0⟩
def pictD (ks : Ks) (b : Bag) : PyData := .list ((numsB ks b).map fun n => pileD (pileOf b n))
def pictR (K : PySem.W.Frag) (CA : Str → Addr) : List Sv → List Thing → ResS → Prop := fun svs w r => ∃ (a : Addr) (B : Bok) (b : Bag) (x : BagX), svs = [.raw (.ref a)] ∧ BagV K CA w a B b x ∧ r = .ok (.d (pictD B.rows b))
theorem grid_ne (o but : Option Int) : (!PyData.eqv (gotD o (optD but)) (optD but)) = !okOwn o but := by
  cases o with
  | none => cases but <;> simp [optD, gotD, okOwn, PyData.eqv]
  | some n =>
    cases but with
    | none => simp [optD, gotD, okOwn, PyData.eqv]
    | some m =>
      simp only [optD, gotD, okOwn]
      rw [Da.eq_int]
      congr 1
      exact Da.dec_iff ⟨fun h => by rw [h], fun h => (Option.some.inj h).symm⟩
theorem shaped_opt (o : Option Int) : SeqAt.shaped (optD o) = true := by
  cases o with
  | none => exact (Da.fit_none (n := 0)).shaped
  | some n => exact (Da.fit_int (n := 0) n).shaped
theorem shaped_grid (o but : Option Int) : SeqAt.shaped (gotD o (optD but)) = true := by
  cases o with
  | none => exact shaped_opt but
  | some n => exact (Da.fit_int (n := 0) n).shaped
theorem fit_prI' (c : Cz) : Da.Fit 1 (prI c) := fit_prI c
section
variable {P : Program} {w : World} {K : PySem.W.Frag} {mg : Str → Option Value} {base : Heap} {CA : Str → Addr}
abbrev FreeF (P : Program) (w : World) (K : PySem.W.Frag) (mg : Str → Option Value) (base : Heap) (CA : Str → Addr) : Prop := FnM P w K mg base 1 (CA "Bag") "is_free" (lift CA (pmW (rdo (freeR K CA))))
theorem ok_is_free (tg : TxtG K mg CA) (D : MethT K CA "Bag" "is_free" "Bag.is_free" T.s_Bag_is_free) : FreeF P w K mg base CA := by
  refine mkM D T.sc_Bag_is_free ?_ (fun f cdv A outer s H E R0 svs th Q hr h => ?_) fun _ _ _ _ _ _ us hl => match us, hl with | [_, _, _], _ => rfl
  · rintro svs th Q ⟨_, ⟨_, _, _, _, _, _, rfl, _⟩, _⟩
    rfl
  obtain ⟨r, ⟨a, B, b, x, l, but, rfl, v, rfl⟩, hq⟩ := h
  have nd := T.sc_Bag_is_free.nd
  refine sb_cons (s_for l prI (vs := [3, 4]) (passes_of rfl) rfl (ei_list (ev_var 1))
    (fun i ρ' w' => w' = th ∧ (l.take i).all (cellOk B.rows b but) = true ∧ ∃ o3 o4, ρ' = [some (.raw (.ref a)), some (.d (czD l)), some (.d (optD but)), o3, o4]) ⟨rfl, rfl, _, _, rfl⟩ ?_ ?_)
  · rintro i c ρ' w' hi ⟨rfl, hall, o3, o4, rfl⟩
    have hil : i < l.length := (List.getElem?_eq_some_iff.mp hi).1
    have hce : l[i] = c := (List.getElem?_eq_some_iff.mp hi).2
    have hcm : c ∈ l := hce ▸ List.getElem_mem _
    refine ⟨_, tg_tup rfl (tgs_cons (tg_name 3 nd (by decide)) (tgs_cons (tg_name 4 nd (by decide)) tgs_nil)), ?_⟩
    have bad : cellOk B.rows b but c = false → isFree B.rows b l but = false := fun hc => by
      unfold isFree
      rw [List.all_eq_false]
      exact ⟨c, hcm, by rw [hc]; exact Bool.false_ne_true⟩
    refine sb_when (v := !inside b c) (EvT.is (et_or (et_not (et_lelt ev_int (ev_var 3) (EvV.dat (vb v (vv 0) rfl)))) (fun _ => et_not (et_lelt ev_int (ev_var 4) (EvV.dat (vb v (vv 0) rfl))))) (Bool.not_and _ _).symm) (fun hv => ?_) (fun hv => ?_)
    · refine sb_one (s_ret (Ev.s ev_bl ?_))
      rw [bad (by unfold cellOk; rw [show inside b c = false by simpa using hv]; rfl)] at hq
      exact hq
    have hin : inside b c = true := by simpa using hv
    refine sb_one (s_if (EvT.s (v := !okOwn (ownB B.rows b c) but) (EvT.is (et_ne (u64 hr) (ev_grid (cz := c) (dd := optD but) v (u1 hr) (vv 0) (ev_tup (ea_cons (ev_var 3) (ea_one (ev_var 4)))) (ev_var 2)) (ev_var 2) (shaped_grid _ _) (shaped_opt _)) (grid_ne _ _)) ⟨fun hv2 => ?_, fun hv2 => ?_⟩))
    · refine sb_one (s_ret (Ev.s ev_bl ?_))
      rw [bad (by unfold cellOk; rw [hin, show okOwn (ownB B.rows b c) but = false by simpa using hv2]; rfl)] at hq
      exact hq
    · refine sb_nil ⟨rfl, ?_, _, _, rfl⟩
      rw [List.take_succ_eq_append_getElem hil, List.all_append, hall, hce]
      have : cellOk B.rows b but c = true := by
        unfold cellOk
        rw [hin, show okOwn (ownB B.rows b c) but = true by simpa using hv2]
        rfl
      simp [this]
  · rintro ρ' w' ⟨rfl, hall, o3, o4, rfl⟩
    rw [List.take_length] at hall
    refine sb_one (s_ret (Ev.s ev_bl ?_))
    have : isFree B.rows b l but = true := hall
    rw [this] at hq
    exact hq
theorem turn_in (k : Kd) (t : Nat) : (((turnsK k).map fun n : Nat => PyData.int (n : Int)).any fun z => PyData.eqv z (.int (t : Int))) = decide (t ∈ turnsK k) :=
  (Da.any_eq (f := fun n : Nat => PyData.int (n : Int)) (a := t) fun y _ => by
    show PyData.eqv (.int (y : Int)) (.int (t : Int)) = true ↔ y = t
    rw [Da.eq_int, decide_eq_true_eq]
    omega).trans (Da.dec_same _ _)
theorem fit_nats (l : List Nat) : Da.Fit 1 (natsD l) := Da.fit_list (Da.fit_map fun n _ => Da.fit_int _)
abbrev FitsF (P : Program) (w : World) (K : PySem.W.Frag) (mg : Str → Option Value) (base : Heap) (CA : Str → Addr) : Prop := FnM P w K mg base 5 (CA "Bag") "fits" (lift CA (pmW (rdo (fitsR K CA))))
theorem ok_fits (tg : TxtG K mg CA) (fu : BTurnsF P w K mg base CA) (fc : CellsOfF P w K mg base CA) (ff : FreeF P w K mg base CA) (D : MethT K CA "Bag" "fits" "Bag.fits" T.s_Bag_fits) : FitsF P w K mg base CA := by
  refine mkM D T.sc_Bag_fits ?_ (fun f cdv A outer s H E R0 svs th Q hr h => ?_) fun _ _ _ _ _ _ us hl => match us, hl with | [_, _, _, _, _], _ => rfl
  · rintro svs th Q ⟨_, ⟨_, _, _, _, _, _, _, _, rfl, _⟩, _⟩
    rfl
  obtain ⟨r, ⟨a, B, b, x, z, t, ro, co, rfl, v, rfl⟩, hq⟩ := h
  have nd := T.sc_Bag_fits.nd
  obtain ⟨i, hi⟩ := v.bk
  cases ek : aget B.rows z with
  | none =>
    rw [ek] at hq
    refine sb_cons (s_if (est_cmp (op_notInD (u65 hr)) rfl (Ev.s (ev_var 2) (emeth fu hr tg.b.c (vb v (vv 0) rfl) (book_is i hi) (va_one (vv 1)) ⟨_, ⟨i, B, z, rfl, hi, v.good.g, rfl⟩, ?_⟩))))
    rw [ek]
    exact hq
  | some k =>
    rw [ek] at hq
    have hq : Q (.ok (.d (.bool (fitsK B.rows b k t ro co none)))) th := hq
    refine sb_when (v := !decide (t ∈ turnsK k)) (EvT.is (et_notIn (u65 hr) (ev_var 2) (EvV.dat (vmeth (sv := .d (natsD (turnsK k))) fu hr tg.b.c (vb v (vv 0) rfl) (book_is i hi) (va_one (vv 1)) ⟨i, B, z, rfl, hi, v.good.g, by rw [ek]; rfl⟩)) (Da.fit_int (n := 0) _).shaped (fit_nats _).shaped) (by rw [turn_in])) (fun hv => ?_) (fun hv => ?_)
    · refine sb_one (s_ret (Ev.s ev_bl ?_))
      have : fitsK B.rows b k t ro co none = false := by
        unfold fitsK
        rw [show decide (t ∈ turnsK k) = false by simpa using hv]
        rfl
      rw [this] at hq
      exact hq
    · refine sb_one (s_ret (EvV.s (vmeth (sv := .d (.bool (isFree B.rows b (cellsZ k.m t ro co) none))) ff (hr.mono (by decide)) tg.c.c (vv 0) v.is (va_cons (vmeth fc (hr.mono (by decide)) tg.c.c (vv 0) v.is (va_cons (vv 1) (va_cons (vv 2) (va_cons (vv 3) (va_one (vv 4))))) ⟨a, B, i, z, t, ro, co, rfl, v.fld _ _ rfl, hi, v.good.g, by rw [ek]⟩) (va_one (Ev.v ev_non))) ⟨a, B, b, x, _, none, rfl, v, rfl⟩) ?_))
      have : fitsK B.rows b k t ro co none = isFree B.rows b (cellsZ k.m t ro co) none := by
        unfold fitsK
        rw [show decide (t ∈ turnsK k) = true by simpa using hv]
        rfl
      rw [this] at hq
      exact hq
abbrev ManyF (P : Program) (w : World) (K : PySem.W.Frag) (mg : Str → Option Value) (base : Heap) (CA : Str → Addr) : Prop := FnM P w K mg base 3 (CA "Bag") "look_many" (lift CA (pmW (rdo (manyR K CA))))
theorem ok_look_many (tg : TxtG K mg CA) (fn : NeedF P w K mg base CA) (fm : BMostF P w K mg base CA) (D : MethT K CA "Bag" "look_many" "Bag.look_many" T.s_Bag_look_many) : ManyF P w K mg base CA := by
  refine mkM D T.sc_Bag_look_many ?_ (fun f cdv A outer s H E R0 svs th Q hr h => ?_) fun _ _ _ _ _ _ us hl => match us, hl with | [_, _, _], _ => rfl
  · rintro svs th Q ⟨_, ⟨_, _, _, _, _, _, rfl, _⟩, _⟩
    rfl
  obtain ⟨r, ⟨a, B, b, x, z, m, rfl, v, rfl⟩, hq⟩ := h
  obtain ⟨i, hi⟩ := v.bk
  unfold manyRes at hq
  cases ek : aget B.rows z with
  | none =>
    rw [ek] at hq
    refine sb_cons (s_expr (emeth fn (hr.mono (by decide)) tg.b.c (vb v (vv 0) rfl) (book_is i hi) (va_one (vv 1)) ⟨_, ⟨i, B, z, rfl, hi, rfl⟩, ?_⟩))
    rw [ek]
    exact hq
  | some k =>
    rw [ek] at hq
    have hq : Q (if 1 ≤ m ∧ m ≤ k.most then .ok (.d .none) else .ex "BadNumber") th := hq
    refine sb_cons (s_expr (emeth fn (hr.mono (by decide)) tg.b.c (vb v (vv 0) rfl) (book_is i hi) (va_one (vv 1)) ⟨_, ⟨i, B, z, rfl, hi, rfl⟩, ?_⟩))
    rw [ek]
    refine sb_one (s_if (EvT.s (v := !(decide (1 ≤ m) && decide (m ≤ k.most))) (et_not (et_lele ev_int (ev_var 2) (EvV.dat (vmeth fm hr tg.b.c (vb v (vv 0) rfl) (book_is i hi) (va_one (vv 1)) ⟨i, B, z, rfl, hi, by rw [ek]⟩)))) ⟨fun hv => ?_, fun hv => ?_⟩))
    · refine sb_one (s_raiseT tg.num rfl ?_)
      rw [if_neg (by intro hh; rw [decide_eq_true hh.1, decide_eq_true hh.2] at hv; cases hv)] at hq
      exact hq
    · refine sb_nil ?_
      have hv : (decide (1 ≤ m) && decide (m ≤ k.most)) = true := by simpa using hv
      rw [Bool.and_eq_true, decide_eq_true_eq, decide_eq_true_eq] at hv
      rw [if_pos hv] at hq
      exact hq
abbrev BNeedF (P : Program) (w : World) (K : PySem.W.Frag) (mg : Str → Option Value) (base : Heap) (CA : Str → Addr) : Prop := FnM P w K mg base 1 (CA "Bag") "need" (lift CA (pmW (rdo (needR K CA))))
theorem ok_bag_need (tg : TxtG K mg CA) (D : MethT K CA "Bag" "need" "Bag.need" T.s_Bag_need) : BNeedF P w K mg base CA := by
  refine mkM D T.sc_Bag_need ?_ (fun f cdv A outer s H E R0 svs th Q hr h => ?_) fun _ _ _ _ _ _ us hl => match us, hl with | [_, _], _ => rfl
  · rintro svs th Q ⟨_, ⟨_, _, _, _, _, rfl, _⟩, _⟩
    rfl
  obtain ⟨r, ⟨a, B, b, x, n, rfl, v, rfl⟩, hq⟩ := h
  refine sb_one (s_if (EvT.s (et_pin v (u1 hr) (vv 0) (ev_var 1)) ⟨fun hv => ?_, fun hv => ?_⟩))
  · refine sb_one (s_raiseT tg.pile rfl ?_)
    rw [if_neg (by rw [show (aget b.piles n).isSome = false by simpa using hv]; exact Bool.false_ne_true)] at hq
    exact hq
  · refine sb_nil ?_
    rw [if_pos (by simpa using hv)] at hq
    exact hq
theorem va_none : True := trivial
abbrev PToldF (P : Program) (w : World) (K : PySem.W.Frag) (mg : Str → Option Value) (base : Heap) (CA : Str → Addr) : Prop := FnM P w K mg base 1 (CA "Pile") "told" (lift CA (pmW (rdo (ptoldR K CA))))
theorem ok_ptold (D : MethT K CA "Pile" "told" "Pile.told" T.s_Pile_told) : PToldF P w K mg base CA := by
  refine mkM D T.sc_Pile_told ?_ (fun f cdv A outer s H E R0 svs th Q hr h => ?_) fun _ _ _ _ _ _ us hl => match us, hl with | [_], _ => rfl
  · rintro svs th Q ⟨_, ⟨_, _, rfl, _⟩, _⟩
    rfl
  obtain ⟨r, ⟨pa, p, rfl, hf, rfl⟩, hq⟩ := h
  exact sb_one (s_ret (Ev.s (ev_tup (ea_cons (EvV.dat (vfld (vv 0) (hf "kind" _ rfl))) (ea_cons (EvV.dat (vfld (vv 0) (hf "many" _ rfl))) (ea_cons (EvV.dat (vfld (vv 0) (hf "turn" _ rfl))) (ea_cons (EvV.dat (vfld (vv 0) (hf "row" _ rfl))) (ea_one (EvV.dat (vfld (vv 0) (hf "column" _ rfl))))))))) hq))
/-- self.piles[number].told() -/
theorem v_told {X : Cx} {R0 : Hp} {ρ : Rho} {w : List Thing} {a : Addr} {B : Bok} {b : Bag} {x : BagX} {n : Int} {p : Pil} {ne o : Expr} {p1 p2 p3 p4 : Pos} {pl : Sem Bool} (tg : TxtG X.K X.mg CA) (ft : PToldF X.prog X.w X.K X.mg X.base CA) (hr : Room 1 X.A) (v : BagV X.K CA w a B b x) (hp : aget b.piles n = some p) (ho : EvV X ((ThW R0).om w) ρ o (.raw (.ref a))) (hn : Ev X ((ThW R0).om w) ρ ne (.int n))
    (hb : attributeBase o "piles" X.env (eval o X.env) = eval o X.env := by rfl) (hs : PlainIx ne := by exact fun _ _ => rfl)
    (ht : eval (.Call (.Attribute (.Subscript (.Attribute o "piles" p1) ne p2) "told" p3) [] [] p4) X.env = (do
      let ov ← eval (.Subscript (.Attribute o "piles" p1) ne p2) X.env
      standAt p3.atName
      let (f, first) ← holding [ov] (getMethod ov "told" pl)
      callWith p4 f first (backTo p4 (starEach [] X.env)) (backToKw p4 (keywordEach [] X.env))) := by rfl) : Ev X ((ThW R0).om w) ρ (.Call (.Attribute (.Subscript (.Attribute o "piles" p1) ne p2) "told" p3) [] [] p4) (pileD p) := by
  obtain ⟨k, en, h1, h2, h3, h4⟩ := ent_of (pl := x.pl) (by rw [v.f.1]; exact hp)
  have hm := List.mem_of_getElem? h1
  exact EvV.dat (vmeth0 ft hr tg.p.c (vpile v (u1 hr) ho hn h4 hb hs) (v.pis en hm) ⟨en.a, p, rfl, fun f sv hf => v.pf en hm f sv (by rw [h3]; exact hf), rfl⟩ (by decide) ht)
abbrev PileF (P : Program) (w : World) (K : PySem.W.Frag) (mg : Str → Option Value) (base : Heap) (CA : Str → Addr) : Prop := FnM P w K mg base 2 (CA "Bag") "pile" (lift CA (pmW (rdo (pileR K CA))))
theorem ok_bag_pile (tg : TxtG K mg CA) (fn : BNeedF P w K mg base CA) (ft : PToldF P w K mg base CA) (D : MethT K CA "Bag" "pile" "Bag.pile" T.s_Bag_pile) : PileF P w K mg base CA := by
  refine mkM D T.sc_Bag_pile ?_ (fun f cdv A outer s H E R0 svs th Q hr h => ?_) fun _ _ _ _ _ _ us hl => match us, hl with | [_, _], _ => rfl
  · rintro svs th Q ⟨_, ⟨_, _, _, _, _, rfl, _⟩, _⟩
    rfl
  obtain ⟨r, ⟨a, B, b, x, n, rfl, v, rfl⟩, hq⟩ := h
  refine sb_cons (s_expr (emeth fn hr tg.c.c (vv 0) v.is (va_one (vv 1)) ⟨_, ⟨a, B, b, x, n, rfl, v, rfl⟩, ?_⟩))
  cases ep : aget b.piles n with
  | none =>
    rw [ep] at hq
    exact hq
  | some p =>
    rw [ep] at hq
    exact sb_one (s_ret (Ev.s (v_told tg ft hr v ep (vv 0) (ev_var 1)) hq))
theorem cells_ne {m : Mx} (g : m.Good) : m.cells ≠ [] := by
  intro h
  obtain ⟨c, h1, h2⟩ := g.top
  have : (0, c) ∈ m.cells := Mx.mem_cells.mpr ⟨by have := g.h1; omega, h1, h2⟩
  rw [h] at this
  cases this
theorem cellsZ_ne {m : Mx} (g : m.Good) (t : Nat) (r c : Int) : cellsZ m t r c ≠ [] := by
  unfold cellsZ
  intro h
  exact cells_ne (g.turnN _) (List.map_eq_nil_iff.mp h)
abbrev PlaceF (P : Program) (w : World) (K : PySem.W.Frag) (mg : Str → Option Value) (base : Heap) (CA : Str → Addr) : Prop := FnM P w K mg base 4 (CA "Bag") "place_of" (lift CA (pmW (rdo (placeR K CA))))
theorem cellsP_of {ks : Ks} {p : Pil} {k : Kd} (h : aget ks p.kind = some k) : cellsP ks p = cellsZ k.m p.turn p.row p.col := by
  unfold cellsP cellsK
  rw [h]
theorem ok_place_of (tg : TxtG K mg CA) (fc : CellsOfF P w K mg base CA) (D : MethT K CA "Bag" "place_of" "Bag.place_of" T.s_Bag_place_of) : PlaceF P w K mg base CA := by
  refine mkM D T.sc_Bag_place_of ?_ (fun f cdv A outer s H E R0 svs th Q hr h => ?_) fun _ _ _ _ _ _ us hl => match us, hl with | [_, _], _ => rfl
  · rintro svs th Q ⟨_, ⟨_, _, _, _, _, _, rfl, _⟩, _⟩
    rfl
  obtain ⟨r, ⟨a, B, b, x, n, p, rfl, v, hp, rfl⟩, hq⟩ := h
  have nd := T.sc_Bag_place_of.nd
  obtain ⟨i, hi⟩ := v.bk
  obtain ⟨j, en, h1, h2, h3, h4⟩ := ent_of (pl := x.pl) (by rw [v.f.1]; exact hp)
  have hm := List.mem_of_getElem? h1
  have pf : ∀ f sv, aget (pileF p) f = some sv → Fld K th en.a f sv := fun f sv hf => v.pf en hm f sv (by rw [h3]; exact hf)
  obtain ⟨k, hk, gk, ht, _⟩ := v.ok.pil _ (aget_mem hp)
  refine sb_cons (s_asg 2 nd (EvV.s (vpile v (u1 hr) (vv 0) (ev_var 1) h4) ?_))
  have hne := cellsZ_ne gk p.turn p.row p.col
  refine sb_one (s_ret (Ev.s (d := prI (firstP B.rows p)) (ev_ixL (EvV.dat (vmeth (sv := .d (czD (cellsZ k.m p.turn p.row p.col))) fc hr tg.c.c (vv 0) v.is (va_cons (vfld (vv 2) (pf "kind" _ rfl)) (va_cons (vfld (vv 2) (pf "turn" _ rfl)) (va_cons (vfld (vv 2) (pf "row" _ rfl)) (va_one (vfld (vv 2) (pf "column" _ rfl)))))) ⟨a, B, i, p.kind, p.turn, p.row, p.col, rfl, v.fld _ _ rfl, hi, v.good.g, by rw [hk]⟩)) ev_int ?_) hq))
  unfold firstP
  rw [cellsP_of hk]
  cases e : cellsZ k.m p.turn p.row p.col with
  | nil => exact absurd e hne
  | cons c l => exact atI_zero _ _
theorem prI_le {α : Type} (g : α → Cz) : PySem.W.dataLe false (fun a => prI (g a)) = fun a b => leI (g a) (g b) := by
  funext a b
  have := congrFun (congrFun dataLe_prI (g a)) (g b)
  exact this
abbrev NumsF (P : Program) (w : World) (K : PySem.W.Frag) (mg : Str → Option Value) (base : Heap) (CA : Str → Addr) : Prop := FnM P w K mg base 7 (CA "Bag") "numbers" (lift CA (pmW (rdo (numsR K CA))))
theorem ok_numbers (tg : TxtG K mg CA) (hs : mg "sorted" = none) (bm : BndT K (CA "Bag") "place_of") (fp : PlaceF P w K mg base CA) (D : MethT K CA "Bag" "numbers" "Bag.numbers" T.s_Bag_numbers) : NumsF P w K mg base CA := by
  refine mkM D T.sc_Bag_numbers ?_ (fun f cdv A outer s H E R0 svs th Q hr h => ?_) fun _ _ _ _ _ _ us hl => match us, hl with | [_], _ => rfl
  · rintro svs th Q ⟨_, ⟨_, _, _, _, rfl, _⟩, _⟩
    rfl
  obtain ⟨r, ⟨a, B, b, x, rfl, v, rfl⟩, hq⟩ := h
  refine sb_one (s_ret (Ev.s (d := .list ((numsB B.rows b).map PyData.int)) (Ev.is (ev_sortBy (b.piles.map (·.1)) (fun n => prI (fstN B.rows b n)) rfl hr hs (vb v (vv 0) rfl) v.pd ?_ (vv 0) v.is (by decide) tg.c.c fp bm (fun n hn => ?_) ?_ ?_ (fun n hn => Nat.le_trans (fit_prI' _).dep (by decide))) ?_) hq))
  · unfold intsK plK
    rw [← v.f.1, List.map_map, List.map_map, List.map_map]
    rfl
  · obtain ⟨q, hq, rfl⟩ := List.mem_map.mp hn
    have e := aget_of_mem v.ok.num hq
    refine ⟨a, B, b, x, q.1, q.2, rfl, v, e, ?_⟩
    unfold fstN
    rw [e]
  · rw [show (b.piles.map (·.1)).map (fun n => prI (fstN B.rows b n)) = ((b.piles.map (·.1)).map (fstN B.rows b)).map prI by simp only [List.map_map]; rfl]
    exact prI_alike _
  · rw [show (b.piles.map (·.1)).map (fun n => prI (fstN B.rows b n)) = ((b.piles.map (·.1)).map (fstN B.rows b)).map prI by simp only [List.map_map]; rfl]
    exact prI_sortable _
  · unfold numsB
    rw [prI_le]
abbrev AtF (P : Program) (w : World) (K : PySem.W.Frag) (mg : Str → Option Value) (base : Heap) (CA : Str → Addr) : Prop := FnM P w K mg base 1 (CA "Bag") "at" (lift CA (pmW (rdo (atR K CA))))
theorem got_opt (o : Option Int) : gotD o .none = optD o := by
  cases o <;> rfl
theorem ok_at (tg : TxtG K mg CA) (D : MethT K CA "Bag" "at" "Bag.at" T.s_Bag_at) : AtF P w K mg base CA := by
  refine mkM D T.sc_Bag_at ?_ (fun f cdv A outer s H E R0 svs th Q hr h => ?_) fun _ _ _ _ _ _ us hl => match us, hl with | [_, _, _], _ => rfl
  · rintro svs th Q ⟨_, ⟨_, _, _, _, _, _, rfl, _⟩, _⟩
    rfl
  obtain ⟨r, ⟨a, B, b, x, ro, co, rfl, v, rfl⟩, hq⟩ := h
  refine sb_when (v := !inside b (ro, co)) (EvT.is (et_or (et_not (et_lelt ev_int (ev_var 1) (EvV.dat (vb v (vv 0) rfl)))) (fun _ => et_not (et_lelt ev_int (ev_var 2) (EvV.dat (vb v (vv 0) rfl))))) (Bool.not_and _ _).symm) (fun hv => ?_) (fun hv => ?_)
  · refine sb_one (s_raiseT tg.place rfl ?_)
    rw [if_neg (by rw [show inside b (ro, co) = false by simpa using hv]; exact Bool.false_ne_true)] at hq
    exact hq
  · rw [if_pos (by simpa using hv)] at hq
    exact sb_one (s_ret (Ev.s (Ev.is (ev_grid (cz := (ro, co)) (dd := .none) v (u1 hr) (vv 0) (ev_tup (ea_cons (ev_var 1) (ea_one (ev_var 2)))) ev_non) (got_opt _)) hq))
end
end G
end

section
set_option Elab.async false
set_option linter.all false
set_option maxRecDepth 100000
set_option maxHeartbeats 4000000
/-! ### a bag: counts, weight, free, shown, picture -/
namespace G
open PySem PySem.Spec PyProof.Rows L2 Sh
structure BagO (K : PySem.W.Frag) (CA : Str → Addr) (w : List Thing) (a : Addr) (B : Bok) (b : Bag) (x : BagX) : Prop where
  v : BagV K CA w a B b x
  q : ∃ q : Nat, w[q]? = some (DicS kdK x.pd (plK x.pl)) ∧ ∀ od kvs, BagV K CA (w.set q (LckS x.pd (plK x.pl) od kvs)) a B b x
theorem bagO_open {K : PySem.W.Frag} {mg : Str → Option Value} {CA : Str → Addr} {a : Addr} {B : Bok} {b : Bag} {x : BagX} (t : TxtG K mg CA) {w : List Thing} {j i : Nat} (h : InBag CA w a B b j i) (f : BagF B.rows b x) : BagO K CA (opB CA w a B b j x) a B b x :=
  ⟨bagV_open t h f, 1, rfl, fun od kvs => bagV_of t rfl (dicR_L (dicL_S _ _) 1 rfl) (dicH_of 2 rfl) rfl (i := i + 4) (by
    show (w.set j EmpT)[i]? = _
    rw [List.getElem?_set_ne (Ne.symm h.ne)]
    exact h.book) f h.ok h.good⟩
def keyN : L2.Key → Int
  | .inl n => n
  | .inr _ => 0
theorem pileOf_mem {b : Bag} (nd : (b.piles.map (·.1)).Nodup) {q : Int × Pil} (h : q ∈ b.piles) : pileOf b q.1 = q.2 := by
  unfold pileOf
  rw [aget_of_mem nd (show (q.1, q.2) ∈ b.piles from h)]
  rfl
theorem pl_filter {ks : Ks} {b : Bag} {x : BagX} (f : BagF ks b x) (nd : (b.piles.map (·.1)).Nodup) (p : Pil → Bool) (g : Pil → PyData) :
    ((plK x.pl).filter fun q => p (pileOf b (keyN q.1))).map (fun q => g (pileOf b (keyN q.1))) = (b.piles.filter fun q => p q.2).map fun q => g q.2 := by
  have hp : ∀ e ∈ x.pl, pileOf b e.n = e.p := fun e he => pileOf_mem (q := (e.n, e.p)) nd (by rw [← f.1]; exact List.mem_map.mpr ⟨e, he, rfl⟩)
  rw [← f.1]
  clear f
  generalize x.pl = pl at hp
  induction pl with
  | nil => rfl
  | cons e pl ih =>
    have h1 := hp e List.mem_cons_self
    have ih := ih fun e' he' => hp e' (List.mem_cons_of_mem _ he')
    unfold plK projE at *
    simp only [List.map_cons]
    by_cases hpe : p e.p = true
    · rw [List.filter_cons_of_pos (by show p (pileOf b e.n) = true; rw [h1]; exact hpe), List.filter_cons_of_pos (by exact hpe), List.map_cons, List.map_cons, ih]
      congr 1
      show g (pileOf b e.n) = _
      rw [h1]
    · rw [List.filter_cons_of_neg (by show ¬ p (pileOf b e.n) = true; rw [h1]; exact hpe), List.filter_cons_of_neg (by exact hpe), ih]
theorem pl_mem {b : Bag} {x : BagX} {ks : Ks} (f : BagF ks b x) (nd : (b.piles.map (·.1)).Nodup) {q : L2.Key × Sv} (h : q ∈ plK x.pl) : ∃ e ∈ x.pl, q = (.inl e.n, .raw (.ref e.a)) ∧ pileOf b (keyN q.1) = e.p ∧ (e.n, e.p) ∈ b.piles := by
  obtain ⟨e, he, rfl⟩ := List.mem_map.mp h
  have hm : (e.n, e.p) ∈ b.piles := by rw [← f.1]; exact List.mem_map.mpr ⟨e, he, rfl⟩
  exact ⟨e, he, rfl, pileOf_mem (q := (e.n, e.p)) nd hm, hm⟩
/-- not too many piles: each has a cell of its own -/
theorem flat_ge {α β : Type} (f : α → List β) : ∀ l : List α, (∀ x ∈ l, f x ≠ []) → l.length ≤ (l.flatMap f).length
  | [], _ => Nat.zero_le _
  | x :: l, h => by
    have h1 := flat_ge f l fun y hy => h y (List.mem_cons_of_mem _ hy)
    have h2 := h x List.mem_cons_self
    rw [List.flatMap_cons, List.length_append, List.length_cons]
    have : 0 < (f x).length := List.length_pos_iff.mpr h2
    omega
theorem nodup_le {α : Type} [DecidableEq α] : ∀ {l m : List α}, l.Nodup → (∀ x ∈ l, x ∈ m) → l.length ≤ m.length
  | [], _, _, _ => Nat.zero_le _
  | x :: l, m, nd, h => by
    rw [List.nodup_cons] at nd
    have hx := h x List.mem_cons_self
    have h1 := nodup_le (m := m.erase x) nd.2 fun y hy => (List.mem_erase_of_ne (fun e : y = x => nd.1 (by rw [← e]; exact hy))).mpr (h y (List.mem_cons_of_mem _ hy))
    rw [List.length_erase_of_mem hx] at h1
    have : 0 < m.length := List.length_pos_of_mem hx
    rw [List.length_cons]
    omega
def boxZ (R C : Nat) : List Cz := (List.range R).flatMap fun r : Nat => (List.range C).map fun c : Nat => ((r : Int), (c : Int))
theorem boxZ_len (R C : Nat) : (boxZ R C).length = R * C := by
  unfold boxZ
  rw [List.length_flatMap]
  simp [List.map_const']
theorem mem_boxZ {R C : Nat} {c : Cz} : c ∈ boxZ R C ↔ (0 ≤ c.1 ∧ c.1 < (R : Int)) ∧ 0 ≤ c.2 ∧ c.2 < (C : Int) := by
  unfold boxZ
  rw [List.mem_flatMap]
  constructor
  · rintro ⟨r, hr, hc⟩
    obtain ⟨d, hd, rfl⟩ := List.mem_map.mp hc
    have := List.mem_range.mp hr
    have := List.mem_range.mp hd
    simp only
    omega
  · rintro ⟨⟨h1, h2⟩, h3, h4⟩
    refine ⟨c.1.toNat, List.mem_range.mpr (by omega), List.mem_map.mpr ⟨c.2.toNat, List.mem_range.mpr (by omega), ?_⟩⟩
    exact Prod.ext (by simp only; omega) (by simp only; omega)
theorem inside_box {b : Bag} {c : Cz} : inside b c = true ↔ c ∈ boxZ b.rows b.cols := by
  rw [mem_boxZ]
  unfold inside
  simp only [Bool.and_eq_true, decide_eq_true_eq]
theorem BagOk.cells {ks : Ks} {b : Bag} (h : BagOk ks b) : (gridL ks b.piles).length ≤ b.rows * b.cols := by
  have h1 := nodup_le (m := boxZ b.rows b.cols) h.dis fun c hc => by
    obtain ⟨q, hq, rfl⟩ := List.mem_map.mp hc
    obtain ⟨p, hp, hc⟩ := mem_gridL.mp (show (q.1, q.2) ∈ _ from hq)
    obtain ⟨k, _, _, _, _, hi⟩ := h.pil _ hp
    exact inside_box.mp (hi _ hc)
  rwa [List.length_map, boxZ_len] at h1
theorem BagOk.few {ks : Ks} {b : Bag} (h : BagOk ks b) : b.piles.length ≤ 100 := by
  have h1 := flat_ge (fun q : Int × Pil => (cellsP ks q.2).map fun c => (c, q.1)) b.piles fun q hq => by
    obtain ⟨k, hk, gk, _⟩ := h.pil q hq
    rw [cellsP_of hk]
    intro e
    exact cellsZ_ne gk _ _ _ (List.map_eq_nil_iff.mp e)
  have h2 := h.cells
  have h3 : b.rows * b.cols ≤ 10 * 10 := Nat.mul_le_mul h.r10 h.c10
  unfold gridL at h2
  omega
theorem plK_len {ks : Ks} {b : Bag} {x : BagX} (f : BagF ks b x) : (plK x.pl).length = b.piles.length := by
  rw [← f.1]
  simp
section
variable {P : Program} {w : World} {K : PySem.W.Frag} {mg : Str → Option Value} {base : Heap} {CA : Str → Addr}
def countRO (K : PySem.W.Frag) (CA : Str → Addr) : List Sv → List Thing → ResS → Prop := fun svs w r => ∃ (a : Addr) (B : Bok) (b : Bag) (x : BagX) (z : Str), svs = [.raw (.ref a), .d (.str z)] ∧ BagO K CA w a B b x ∧ r = if (aget B.rows z).isSome then .ok (.d (.int (countB b z))) else .ex "BadKind"
def countsRO (K : PySem.W.Frag) (CA : Str → Addr) : List Sv → List Thing → ResS → Prop := fun svs w r => ∃ (a : Addr) (B : Bok) (b : Bag) (x : BagX), svs = [.raw (.ref a)] ∧ BagO K CA w a B b x ∧ r = .ok (.d (countsD B.rows b))
def weighRO (K : PySem.W.Frag) (CA : Str → Addr) : List Sv → List Thing → ResS → Prop := fun svs w r => ∃ (a : Addr) (B : Bok) (b : Bag) (x : BagX), svs = [.raw (.ref a)] ∧ BagO K CA w a B b x ∧ r = .ok (.d (.int (weightB B.rows b)))
abbrev CountF (P : Program) (w : World) (K : PySem.W.Frag) (mg : Str → Option Value) (base : Heap) (CA : Str → Addr) : Prop := FnM P w K mg base 2 (CA "Bag") "count" (lift CA (pmW (rdo (countRO K CA))))
abbrev WeighF (P : Program) (w : World) (K : PySem.W.Frag) (mg : Str → Option Value) (base : Heap) (CA : Str → Addr) : Prop := FnM P w K mg base 3 (CA "Bag") "weight" (lift CA (pmW (rdo (weighRO K CA))))
theorem ok_weigh (hs : mg "sum" = none) (tg : TxtG K mg CA) (fw : FnM P w K mg base 2 (CA "Book") "weight" (lift CA (pmW (rdo (askR (CA "Book") fun k => .int k.heavy))))) (D : MethT K CA "Bag" "weight" "Bag.weight" T.s_Bag_weight) : WeighF P w K mg base CA := by
  refine mkM D T.sc_Bag_weight ?_ (fun f cdv A outer s H E R0 svs th Q hr h => ?_) fun _ _ _ _ _ _ us hl => match us, hl with | [_], _ => rfl
  · rintro svs th Q ⟨_, ⟨_, _, _, _, rfl, _⟩, _⟩
    rfl
  obtain ⟨r, ⟨a, B, b, x, rfl, o, rfl⟩, hq⟩ := h
  have nd := T.sc_Bag_weight.nd
  have v := o.v
  obtain ⟨q, hq1, hlk⟩ := o.q
  have hfew := v.ok.few
  refine sb_one (s_ret (Ev.s (d := .int (weightB B.rows b)) (ev_sum (ns := b.piles.map fun q => heavyOf B.rows q.2.kind * q.2.many) rfl hs (Ev.is (ev_lcD walkV (fun q => true) (fun q => .int (heavyOf B.rows (pileOf b (keyN q.1)).kind * (pileOf b (keyN q.1)).many)) (fun q => [some (.raw (.ref a)), some q.2]) q (own := [("pile", 1)]) rfl nd (blkOk_by (N := T.N_Bag_weight) (sc := defScope T.s_Bag_weight) (by decide +kernel)) hq1 (dicL_S _ _) ?_ (fun od kvs => vb (hlk od kvs) (vv 0) rfl) (fun _ _ _ _ _ q hq => tg_nameS 1 nd (by decide)) (fun od kvs _ _ _ _ _ q hq => ets_nil) (fun od kvs _ _ _ _ _ q hq hp => ?_)) ?_)) hq))
  · rw [plK_len v.f]
    exact Nat.lt_of_le_of_lt hfew (by decide)
  · obtain ⟨e, he, rfl, hpe, hm⟩ := pl_mem v.f v.ok.num hq
    rw [hpe]
    obtain ⟨k, hk, _⟩ := v.ok.pil _ hm
    obtain ⟨i, hi⟩ := (hlk od kvs).bk
    have hl := v.good.lim _ (aget_mem hk)
    have eh : heavyOf B.rows e.p.kind = k.heavy := by
      unfold heavyOf
      rw [hk]
    rw [eh]
    refine ev_mul (EvV.dat (vmeth fw hr tg.b.c (vb (hlk od kvs) (vv 0) rfl) (book_is i hi) (va_one (vfld (vv 1) ((hlk od kvs).pf e he "kind" _ rfl))) ⟨i, B, e.p.kind, rfl, hi, by rw [hk]⟩)) (EvV.dat (vfld (vv 1) ((hlk od kvs).pf e he "many" _ rfl))) (.inl ⟨?_, ?_⟩)
    · have : 0 ≤ k.heavy := hl.2.2.1
      have h2 : (-(2 ^ 64) : Int) < 0 := by decide
      omega
    · have : k.heavy ≤ 999 := hl.2.2.2
      have h2 : (999 : Int) < 2 ^ 64 := by decide
      omega
  · have := pl_filter v.f v.ok.num (fun p => true) (fun p => .int (heavyOf B.rows p.kind * p.many))
    rw [this, List.map_map, List.filter_eq_self.mpr (fun _ _ => rfl)]
    rfl
abbrev CountsF (P : Program) (w : World) (K : PySem.W.Frag) (mg : Str → Option Value) (base : Heap) (CA : Str → Addr) : Prop := FnM P w K mg base 3 (CA "Bag") "counts" (lift CA (pmW (rdo (countsRO K CA))))
theorem sortS_mem {l : List Str} {z : Str} : z ∈ sortS l ↔ z ∈ l := by
  unfold sortS
  exact (List.mergeSort_perm l _).mem_iff
theorem sortS_len (l : List Str) : (sortS l).length = l.length := (List.mergeSort_perm l _).length_eq
theorem aget_key {ks : Ks} {z : Str} (h : z ∈ ks.map (·.1)) : (aget ks z).isSome = true := by
  cases e : aget ks z with
  | none => exact absurd h (aget_none.mp e)
  | some k => rfl
theorem ok_free (hl : mg "len" = none) (tg : TxtG K mg CA) (D : MethT K CA "Bag" "free" "Bag.free" T.s_Bag_free) : FnM P w K mg base 1 (CA "Bag") "free" (lift CA (pmW (rdo (freeNR K CA)))) := by
  refine mkM D T.sc_Bag_free ?_ (fun f cdv A outer s H E R0 svs th Q hr h => ?_) fun _ _ _ _ _ _ us hl => match us, hl with | [_], _ => rfl
  · rintro svs th Q ⟨_, ⟨_, _, _, _, rfl, _⟩, _⟩
    rfl
  obtain ⟨r, ⟨a, B, b, x, rfl, v, rfl⟩, hq⟩ := h
  have hr10 := v.ok.r10
  refine sb_one (s_ret (Ev.s (Ev.is (ev_sub (ev_mul (EvV.dat (vb v (vv 0) rfl)) (EvV.dat (vb v (vv 0) rfl)) (.inl ⟨by omega, by omega⟩)) (ev_dlen hl (vb v (vv 0) rfl) v.gd)) ?_) hq))
  rw [List.length_map, v.f.2.len]
abbrev ShownF (P : Program) (w : World) (K : PySem.W.Frag) (mg : Str → Option Value) (base : Heap) (CA : Str → Addr) : Prop := FnM P w K mg base 1 (CA "Bag") "shown" (lift CA (pmW (rdo (shownR K CA))))
theorem got_zero (o : Option Int) : gotD o (.int 0) = .int (o.getD 0) := by
  cases o <;> rfl
abbrev PictF (P : Program) (w : World) (K : PySem.W.Frag) (mg : Str → Option Value) (base : Heap) (CA : Str → Addr) : Prop := FnM P w K mg base 8 (CA "Bag") "picture" (lift CA (pmW (rdo (pictR K CA))))
theorem numsB_mem {ks : Ks} {b : Bag} {n : Int} : n ∈ numsB ks b ↔ n ∈ b.piles.map (·.1) := by
  unfold numsB
  exact (List.mergeSort_perm _ _).mem_iff
theorem numsB_len (ks : Ks) (b : Bag) : (numsB ks b).length = b.piles.length := by
  unfold numsB
  rw [(List.mergeSort_perm _ _).length_eq, List.length_map]
theorem pile_there {b : Bag} {n : Int} (h : n ∈ b.piles.map (·.1)) : aget b.piles n = some (pileOf b n) := by
  cases e : aget b.piles n with
  | none => exact absurd h (aget_none.mp e)
  | some p =>
    unfold pileOf
    rw [e]
    rfl
end
end G
end

section
set_option Elab.async false
set_option linter.all false
set_option maxRecDepth 100000
set_option maxHeartbeats 4000000
/-! ### a bag: piles laid and lifted -/
namespace G
open PySem PySem.Spec PyProof.Rows L2 Sh
theorem sep_swap {F R0 R : Hp} {pre l : List Thing} {x y : Thing} (h : Sep F R0 (pre ++ x :: y :: l) R) : Sep F R0 (pre ++ y :: x :: l) R := by
  obtain ⟨c, h0, hc⟩ := h
  refine ⟨fun a => match c a with
    | some k => if k = pre.length then some (pre.length + 1) else if k = pre.length + 1 then some pre.length else some k
    | none => none, fun a o q => ?_, fun i t q => ?_⟩
  · obtain ⟨q1, q2⟩ := h0 a o q
    exact ⟨q1, by simp [q2]⟩
  · have key : ∀ k, (pre ++ x :: y :: l)[k]? = some t → (if k = pre.length then pre.length + 1 else if k = pre.length + 1 then pre.length else k) = i → t.P F (part R (fun a => match c a with
        | some k => if k = pre.length then some (pre.length + 1) else if k = pre.length + 1 then some pre.length else some k
        | none => none) i) := fun k hk hi => by
      refine t.mono (Same.refl F) (fun a o z => ?_) (hc k t hk)
      have hca := part_some z
      rw [part_in hca] at z
      rw [part_in]
      · exact z
      · simp only [hca]
        rw [← hi]
        split
        · rfl
        · split <;> rfl
    by_cases h1 : i < pre.length
    · rw [List.getElem?_append_left h1] at q
      exact key i (by rw [List.getElem?_append_left h1]; exact q) (by rw [if_neg (by omega), if_neg (by omega)])
    · rw [List.getElem?_append_right (by omega)] at q
      by_cases h2 : i = pre.length
      · subst h2
        rw [Nat.sub_self] at q
        refine key (pre.length + 1) ?_ (by rw [if_neg (by omega), if_pos rfl])
        rw [List.getElem?_append_right (by omega), show pre.length + 1 - pre.length = 1 by omega]
        exact q
      · by_cases h3 : i = pre.length + 1
        · subst h3
          rw [show pre.length + 1 - pre.length = 1 by omega] at q
          refine key pre.length ?_ (by rw [if_pos rfl])
          rw [List.getElem?_append_right (Nat.le_refl _), Nat.sub_self]
          exact q
        · refine key i ?_ (by rw [if_neg h2, if_neg h3])
          rw [List.getElem?_append_right (by omega)]
          obtain ⟨m, hm⟩ : ∃ m, i - pre.length = m + 2 := ⟨i - pre.length - 2, by omega⟩
          rw [hm] at q ⊢
          exact q
theorem sep_perm {F R0 R : Hp} {w w' : List Thing} (p : w.Perm w') : ∀ pre, Sep F R0 (pre ++ w) R → Sep F R0 (pre ++ w') R := by
  induction p with
  | nil => exact fun pre h => h
  | cons x p ih =>
    rename_i l l'
    intro pre h
    have := ih (pre ++ [x]) (by rw [List.append_assoc]; exact h)
    rw [List.append_assoc] at this
    exact this
  | swap x y l => exact fun pre h => sep_swap h
  | trans p1 p2 ih1 ih2 => exact fun pre h => ih2 pre (ih1 pre h)
theorem Sep.perm {F R0 R : Hp} {w w' : List Thing} (h : Sep F R0 w R) (p : w.Perm w') : Sep F R0 w' R := sep_perm p [] h
theorem putFS_new {f : Str} {v : Sv} : ∀ {fss : List (Str × Sv)}, f ∉ fss.map (·.1) → putFS f v fss = fss ++ [(f, v)]
  | [], _ => rfl
  | (g, x) :: r, h => by
    rw [List.map_cons, List.mem_cons, not_or] at h
    show (if g = f then (g, v) :: r else (g, x) :: putFS f v r) = _
    rw [if_neg (fun z => h.1 z.symm), putFS_new h.2]
    rfl
abbrev fld1 (f : Str) (v : Sv) : List (Str × Sv) := [(f, v)]
def spPile (C : Addr) : Spc := fun svs w Q => ∃ (w0 : List Thing) (a dx : Addr) (p : Pil), svs = [.raw (.ref a), .d (.str p.kind), .d (.int p.many), .d (.int (p.turn : Int)), .d (.int p.row), .d (.int p.col)] ∧ dx ≠ a ∧ w = w0 ++ [InsT C a dx []] ∧ Q (.ok (.d .none)) (w0 ++ [InsS C a dx (pileF p)])
def spBag (CA : Str → Addr) : Spc := fun svs w Q => ∃ (w0 : List Thing) (a dx : Addr) (B : Bok) (r c : Int), svs = [.raw (.ref a), .raw (.ref B.b), .d (.int r), .d (.int c)] ∧ dx ≠ a ∧ w = w0 ++ [InsT (CA "Bag") a dx []] ∧
  if 1 ≤ r ∧ r ≤ 10 ∧ 1 ≤ c ∧ c ≤ 10 then Q (.ok (.d .none)) (w0 ++ [BagT (CA "Bag") (CA "Pile") a B.b B.rows ⟨r.toNat, c.toNat, 0, []⟩]) else Q (.ex "BadNumber") w0
section
variable {P : Program} {w : World} {K : PySem.W.Frag} {mg : Str → Option Value} {base : Heap} {CA : Str → Addr}
abbrev MPileF (P : Program) (w : World) (K : PySem.W.Frag) (mg : Str → Option Value) (base : Heap) (CA : Str → Addr) : Prop := FnN P w K mg base 1 (CA "Pile") "Pile" (lift CA (pmW (spPile (CA "Pile"))))
theorem ok_pile (tg : TxtG K mg CA) (D : MakeT K mg CA "Pile" "Pile.__init__" T.s_Pile_init) : MPileF P w K mg base CA := by
  refine mkN D T.sc_Pile_init ?_ (fun f cdv A outer s H E R0 svs th Q hr h => ?_) fun _ _ _ _ _ _ us hl => match us, hl with | [_, _, _, _, _, _], _ => rfl
  · rintro svs th Q ⟨_, _, _, _, rfl, _⟩
    rfl
  obtain ⟨w0, a, dx, p, rfl, hne, rfl, hq⟩ := h
  refine sb_cons (s_fset w0.length (vv 1) (vv 0) (at_last _ _) (insW_T hne) tg.p.c (tg.p.na _ (by decide)) ?_)
  rw [set_last, show putFS "kind" (.d (.str p.kind)) [] = ([("kind", .d (.str p.kind))] : List (Str × Sv)) from rfl]
  refine sb_cons (s_fset w0.length (vv 2) (vv 0) (at_last _ _) (insW_S0 _) tg.p.c (tg.p.na _ (by decide)) ?_ (hl := by simp))
  rw [set_last, putFS_new (by simp only [List.map_cons, List.map_nil, List.map_append]; decide +kernel)]
  refine sb_cons (s_fset w0.length (vv 3) (vv 0) (at_last _ _) (insW_S0 _) tg.p.c (tg.p.na _ (by decide)) ?_ (hl := by simp))
  rw [set_last, putFS_new (by simp only [List.map_cons, List.map_nil, List.map_append]; decide +kernel)]
  refine sb_cons (s_fset w0.length (vv 4) (vv 0) (at_last _ _) (insW_S0 _) tg.p.c (tg.p.na _ (by decide)) ?_ (hl := by simp))
  rw [set_last, putFS_new (by simp only [List.map_cons, List.map_nil, List.map_append]; decide +kernel)]
  refine sb_one (s_fset w0.length (vv 5) (vv 0) (at_last _ _) (insW_S0 _) tg.p.c (tg.p.na _ (by decide)) ?_ (hl := by simp))
  rw [set_last, putFS_new (by simp only [List.map_cons, List.map_nil, List.map_append]; decide +kernel)]
  exact hq
theorem grid_nil (ks : Ks) (r c : Nat) : GridOk ks ⟨r, c, 0, []⟩ [] := ⟨List.Perm.refl _, List.nodup_nil⟩
theorem ok_bag (tg : TxtG K mg CA) (D : MakeT K mg CA "Bag" "Bag.__init__" T.s_Bag_init) : FnN P w K mg base 1 (CA "Bag") "Bag" (lift CA (pmW (spBag CA))) := by
  refine mkN D T.sc_Bag_init ?_ (fun f cdv A outer s H E R0 svs th Q hr h => ?_) fun _ _ _ _ _ _ us hl => match us, hl with | [_, _, _, _], _ => rfl
  · rintro svs th Q ⟨_, _, _, _, _, _, rfl, _⟩
    rfl
  obtain ⟨w0, a, dx, B, r, c, rfl, hne, rfl, hq⟩ := h
  refine sb_post ?_
  refine sb_when (v := !(decide (1 ≤ r) && decide (r ≤ 10)) || !(decide (1 ≤ c) && decide (c ≤ 10))) (et_or (et_not (et_lele ev_int (ev_var 2) (ev_gint tg.ms))) (fun _ => et_not (et_lele ev_int (ev_var 3) (ev_gint tg.ms)))) (fun hv => ?_) (fun hv => ?_)
  · refine sb_one (s_raiseT tg.num rfl ⟨w0, fun F R h => h.drop, ?_⟩)
    rw [if_neg (by rintro ⟨h1, h2, h3, h4⟩; simp [h1, h2, h3, h4] at hv)] at hq
    exact hq
  have hin : 1 ≤ r ∧ r ≤ 10 ∧ 1 ≤ c ∧ c ≤ 10 := by
    simp only [Bool.or_eq_false_iff, Bool.not_eq_false', Bool.and_eq_true, decide_eq_true_eq] at hv
    exact ⟨hv.1.1, hv.1.2, hv.2.1, hv.2.2⟩
  rw [if_pos hin] at hq
  refine sb_cons (s_fset w0.length (vv 1) (vv 0) (at_last _ _) (insW_T hne) tg.c.c (tg.c.na _ (by decide)) ?_)
  rw [set_last, show putFS "book" (.raw (.ref B.b)) [] = ([("book", .raw (.ref B.b))] : List (Str × Sv)) from rfl]
  refine sb_cons (s_fset w0.length (vv 2) (vv 0) (at_last _ _) (insW_S0 _) tg.c.c (tg.c.na _ (by decide)) ?_ (hl := by simp))
  rw [set_last, putFS_new (by simp only [List.map_cons, List.map_nil, List.map_append]; decide +kernel)]
  refine sb_cons (s_fset w0.length (vv 3) (vv 0) (at_last _ _) (insW_S0 _) tg.c.c (tg.c.na _ (by decide)) ?_ (hl := by simp))
  rw [set_last, putFS_new (by simp only [List.map_cons, List.map_nil, List.map_append]; decide +kernel)]
  refine sb_cons (s_fsetS w0.length (es_dnew kdK fun pd => ⟨a, CA "Bag", (fld1 "book" (.raw (.ref B.b)) ++ fld1 "rows" (.d (.int r)) ++ fld1 "columns" (.d (.int c))), _, _, vv 0, ?_, insW_S0 (dx := dx) _, tg.c.c, tg.c.na _ (by decide), ?_, ?_⟩))
  · rw [List.getElem?_append_left (by simp)]
    exact at_last _ _
  · simp
  rw [List.set_append_left _ _ (by simp), set_last, putFS_new (by simp only [List.map_cons, List.map_nil, List.map_append]; decide +kernel)]
  refine sb_cons (s_fset w0.length (Ev.v ev_int) (vv 0) (by rw [List.getElem?_append_left (by simp)]; exact at_last _ _) (insW_S0 _) tg.c.c (tg.c.na _ (by decide)) ?_ (hl := by simp))
  rw [List.set_append_left _ _ (by simp), set_last, putFS_new (by simp only [List.map_cons, List.map_nil, List.map_append]; decide +kernel)]
  refine sb_one (s_fsetS w0.length (es_dnew kdT fun gd => ⟨a, CA "Bag", (fld1 "book" (.raw (.ref B.b)) ++ fld1 "rows" (.d (.int r)) ++ fld1 "columns" (.d (.int c)) ++ fld1 "piles" (.raw (.ref pd)) ++ fld1 "last" (.d (.int 0))), _, _, vv 0, ?_, insW_S0 (dx := dx) _, tg.c.c, tg.c.na _ (by decide), ?_, ?_⟩))
  · rw [List.append_assoc, List.getElem?_append_left (by simp)]
    exact at_last _ _
  · simp
  rw [List.append_assoc, List.set_append_left _ _ (by simp), set_last, putFS_new (by simp only [List.map_cons, List.map_nil, List.map_append]; decide +kernel)]
  refine ⟨_, fun F R h => ?_, hq⟩
  have er : ((r.toNat : Nat) : Int) = r := by omega
  have ec : ((c.toNat : Nat) : Int) = c := by omega
  have h1 := (h.fact (u := Grp []) ⟨fun _ => none, fun i t e => by simp at e⟩).fact (u := EmpT) trivial
  have h2 : Sep F R0 (bagThings (CA "Bag") (CA "Pile") a B.b ⟨r.toNat, c.toNat, 0, []⟩ ⟨dx, pd, gd, [], []⟩ ++ (w0 ++ [EmpT])) R := by
    refine h1.perm ?_
    have e : (InsS (CA "Bag") a dx (bagF ⟨r.toNat, c.toNat, 0, []⟩ B.b pd gd)) = InsS (CA "Bag") a dx (fld1 "book" (.raw (.ref B.b)) ++ fld1 "rows" (.d (.int r)) ++ fld1 "columns" (.d (.int c)) ++ fld1 "piles" (.raw (.ref pd)) ++ fld1 "last" (.d (.int 0)) ++ fld1 "grid" (.raw (.ref gd))) := by
      unfold bagF
      rw [er, ec]
      rfl
    unfold bagThings
    rw [e]
    show List.Perm _ ([_, _, _, _] ++ (w0 ++ [EmpT]))
    simp only [List.append_assoc, List.cons_append, List.nil_append]
    refine List.Perm.trans (List.perm_append_comm (l₁ := w0)) ?_
    simp only [List.cons_append, List.nil_append]
    refine List.Perm.cons _ (List.Perm.cons _ (List.Perm.cons _ (List.Perm.cons _ ?_)))
    exact List.perm_append_comm (l₁ := [EmpT])
  have h3 := bag_close (j := w0.length) (ks := B.rows) ⟨rfl, grid_nil _ _ _⟩ h2
  rw [set_last] at h3
  exact h3
end
end G
end

section
set_option Elab.async false
set_option linter.all false
set_option maxRecDepth 100000
set_option maxHeartbeats 4000000
/-! ### a bag: lay, lift -/
namespace G
open PySem PySem.Spec PyProof.Rows L2 Sh
theorem cellsZ_nodup (m : Mx) (t : Nat) (r c : Int) : (cellsZ m t r c).Nodup := by
  unfold cellsZ
  refine List.Pairwise.map _ (fun a b hab e => hab ?_) (Sh.cells_nodup (Mx.turnN (t % 4) m))
  have e1 : r + (a.1 : Int) = r + (b.1 : Int) := congrArg Prod.fst e
  have e2 : c + (a.2 : Int) = c + (b.2 : Int) := congrArg Prod.snd e
  exact Prod.ext (by omega) (by omega)
theorem cellsZ_len {m : Mx} (g : m.Good) (t : Nat) (r c : Int) : (cellsZ m t r c).length ≤ 16 := by
  unfold cellsZ
  rw [List.length_map]
  exact cells_len (g.turnN _)
theorem gridL_app (ks : Ks) (ps : List (Int × Pil)) (n : Int) (p : Pil) : gridL ks (ps ++ [(n, p)]) = gridL ks ps ++ (cellsP ks p).map fun c => (c, n) := by
  unfold gridL
  rw [List.flatMap_append]
  simp
theorem fst_pair (n : Int) : ∀ l : List Cz, (l.map fun c => (c, n)).map (·.1) = l
  | [] => rfl
  | c :: l => by
    rw [List.map_cons, List.map_cons, fst_pair n l]
def Bag.withP (b : Bag) (n : Int) (p : Pil) : Bag := { b with piles := b.piles ++ [(n, p)] }
def Bag.without (b : Bag) (n : Int) : Bag := { b with piles := adrop b.piles n }
theorem GridOk.lay {ks : Ks} {b : Bag} {gr : List (Cz × Int)} (h : GridOk ks b gr) {n : Int} {p : Pil} (nd : (cellsP ks p).Nodup) (hf : ∀ c ∈ cellsP ks p, ownB ks b c = none) : GridOk ks (b.withP n p) (gr ++ (cellsP ks p).map fun c => (c, n)) := by
  refine ⟨?_, ?_⟩
  · show (gr ++ _).Perm (gridL ks (b.piles ++ [(n, p)]))
    rw [gridL_app]
    exact h.pm.append_right _
  · rw [List.map_append, List.nodup_append]
    refine ⟨h.nd, by rw [fst_pair]; exact nd, fun c hc d hd e => ?_⟩
    subst e
    rw [fst_pair] at hd
    obtain ⟨q, hq, rfl⟩ := List.mem_map.mp hc
    exact ownB_none.mp (hf _ hd) q.2 (h.pm.mem_iff.mp hq)
theorem adrop_erase {κ β : Type} [DecidableEq κ] : ∀ {l : List (κ × β)} {k : Nat} {n : κ} {v : β}, (l.map (·.1)).Nodup → l[k]? = some (n, v) → adrop l n = l.eraseIdx k
  | [], k, n, v, _, h => by simp at h
  | x :: l, 0, n, v, nd, h => by
    simp only [List.getElem?_cons_zero, Option.some.injEq] at h
    subst h
    rw [List.map_cons, List.nodup_cons] at nd
    unfold adrop
    rw [List.filter_cons_of_neg (by simp)]
    show List.filter _ l = l
    exact List.filter_eq_self.mpr fun q hq => decide_eq_true fun z => nd.1 (z ▸ List.mem_map.mpr ⟨q, hq, rfl⟩)
  | x :: l, k + 1, n, v, nd, h => by
    rw [List.getElem?_cons_succ] at h
    rw [List.map_cons, List.nodup_cons] at nd
    have hne : x.1 ≠ n := fun z => nd.1 (z ▸ List.mem_map.mpr ⟨_, List.mem_of_getElem? h, rfl⟩)
    have ih := adrop_erase nd.2 h
    unfold adrop at ih ⊢
    rw [List.filter_cons_of_pos (by simpa using hne), ih]
    rfl
theorem gridL_drop {ks : Ks} {n : Int} {cs : List Cz} : ∀ {ps : List (Int × Pil)}, (∀ q ∈ ps, (q.1 = n → ∀ c ∈ cellsP ks q.2, c ∈ cs) ∧ (q.1 ≠ n → ∀ c ∈ cellsP ks q.2, c ∉ cs)) → (gridL ks ps).filter (fun q => decide (q.1 ∉ cs)) = gridL ks (adrop ps n)
  | [], _ => rfl
  | q :: ps, h => by
    have ih := gridL_drop (ps := ps) fun q hq => h q (List.mem_cons_of_mem _ hq)
    obtain ⟨h1, h2⟩ := h q List.mem_cons_self
    have e : gridL ks (q :: ps) = ((cellsP ks q.2).map fun c => (c, q.1)) ++ gridL ks ps := rfl
    rw [e, List.filter_append, ih]
    by_cases hn : q.1 = n
    · have e2 : adrop (q :: ps) n = adrop ps n := by
        unfold adrop
        rw [List.filter_cons_of_neg (by simpa using hn)]
      rw [e2, List.filter_eq_nil_iff.mpr]
      · rfl
      · intro x hx
        obtain ⟨c, hc, rfl⟩ := List.mem_map.mp hx
        simpa using h1 hn c hc
    · have e2 : adrop (q :: ps) n = q :: adrop ps n := by
        unfold adrop
        rw [List.filter_cons_of_pos (by simpa using hn)]
      rw [e2, List.filter_eq_self.mpr]
      · rfl
      · intro x hx
        obtain ⟨c, hc, rfl⟩ := List.mem_map.mp hx
        simpa using h2 hn c hc
theorem GridOk.lift {ks : Ks} {b : Bag} {gr : List (Cz × Int)} (h : GridOk ks b gr) (num : (b.piles.map (·.1)).Nodup) {n : Int} {p : Pil} (hp : aget b.piles n = some p) : GridOk ks (b.without n) (gr.filter fun q => decide (q.1 ∉ cellsP ks p)) := by
  have hm := aget_mem hp
  refine ⟨?_, (h.nd.sublist (List.Sublist.map _ List.filter_sublist))⟩
  show List.Perm _ (gridL ks (adrop b.piles n))
  rw [← gridL_drop (cs := cellsP ks p) (ps := b.piles)]
  · exact h.pm.filter _
  · intro q hq
    refine ⟨fun e c hc => ?_, fun hne c hc hcs => hne ?_⟩
    · obtain ⟨q1, q2⟩ := q
      have e : q1 = n := e
      subst e
      have := key_once num hq hm
      rw [← this]
      exact hc
    · exact key_once h.dis (mem_gridL.mpr ⟨q.2, hq, hc⟩) (mem_gridL.mpr ⟨p, hm, hcs⟩)
/-- a bag whose last number need not be the greatest -/
structure InBagL (CA : Str → Addr) (w : List Thing) (a : Addr) (B : Bok) (b : Bag) (j i : Nat) : Prop where
  bag : w[j]? = some (BagT (CA "Bag") (CA "Pile") a B.b B.rows b)
  book : w[i]? = some (BookT (CA "Book") B)
  ne : i ≠ j
  ok : ∃ L : Int, BagOk B.rows { b with last := L }
  good : KsOk B.rows
theorem InBag.l {CA : Str → Addr} {w : List Thing} {a : Addr} {B : Bok} {b : Bag} {j i : Nat} (h : InBag CA w a B b j i) : InBagL CA w a B b j i := ⟨h.bag, h.book, h.ne, ⟨b.last, h.ok⟩, h.good⟩
def spLay (CA : Str → Addr) : Spc := fun svs w Q => ∃ (a : Addr) (B : Bok) (b : Bag) (j i l : Nat) (n : Int) (p : Pil) (k : Kd) (pa pdx : Addr), svs = [.raw (.ref a), .d (.int n), .raw (.ref pa)] ∧ InBagL CA w a B b j i ∧ w[l]? = some (InsS (CA "Pile") pa pdx (pileF p)) ∧ l ≠ j ∧ l ≠ i ∧ aget b.piles n = none ∧ aget B.rows p.kind = some k ∧ (∀ c ∈ cellsP B.rows p, ownB B.rows b c = none) ∧
  Q (.ok (.d .none)) ((w.set j (BagT (CA "Bag") (CA "Pile") a B.b B.rows (b.withP n p))).set l EmpT)
def spLift (CA : Str → Addr) : Spc := fun svs w Q => ∃ (a : Addr) (B : Bok) (b : Bag) (j i : Nat) (n : Int) (p : Pil), svs = [.raw (.ref a), .d (.int n)] ∧ InBag CA w a B b j i ∧ aget b.piles n = some p ∧
  ∀ pa pdx, Q (.ok (.raw (.ref pa))) (w.set j (BagT (CA "Bag") (CA "Pile") a B.b B.rows (b.without n)) ++ [InsS (CA "Pile") pa pdx (pileF p)])
theorem grK_put {g : List (Cz × Int)} {c : Cz} (n : Int) (h : aget g c = none) : aput (grK g) (zk c) (.d (.int n)) = grK (g ++ [(c, n)]) := by
  rw [aput_new]
  · unfold grK
    rw [List.map_append]
    rfl
  · rw [grK_get, h]
    rfl
theorem grK_drop (g : List (Cz × Int)) (c : Cz) : adrop (grK g) (zk c) = grK (adrop g c) := adrop_map zk (fun n : Int => Sv.d (.int n)) (fun _ _ h => zk_inj h) c g
theorem plK_new {pl : List Ent} {n : Int} {p : Pil} {pa pdx : Addr} (h : aget (projE pl) n = none) : aput (plK pl) (.inl n) (.raw (.ref pa)) = plK (pl ++ [⟨n, p, pa, pdx⟩]) := by
  rw [aput_new]
  · unfold plK
    rw [List.map_append]
    rfl
  · cases e : aget (plK pl) (.inl n) with
    | none => rfl
    | some v =>
      have := plK_some pl n
      rw [e, h] at this
      cases this
theorem plK_nodup {pl : List Ent} (h : ((projE pl).map (·.1)).Nodup) : ((plK pl).map (·.1)).Nodup := by
  unfold plK
  unfold projE at h
  rw [List.map_map] at h ⊢
  have : (pl.map ((fun x : L2.Key × Sv => x.1) ∘ fun e : Ent => ((.inl e.n : L2.Key), Sv.raw (.ref e.a)))) = (pl.map ((fun x : Int × Pil => x.1) ∘ fun e : Ent => (e.n, e.p))).map Sum.inl := by
    rw [List.map_map]
    rfl
  rw [this]
  exact List.Pairwise.map _ (fun a b hab e => hab (Sum.inl.inj e)) h
section
variable {P : Program} {w : World} {K : PySem.W.Frag} {mg : Str → Option Value} {base : Heap} {CA : Str → Addr}
abbrev LayF (P : Program) (w : World) (K : PySem.W.Frag) (mg : Str → Option Value) (base : Heap) (CA : Str → Addr) : Prop := FnM P w K mg base 4 (CA "Bag") "lay" (lift CA (pmW (spLay CA)))
theorem ok_lay (tg : TxtG K mg CA) (fc : CellsOfF P w K mg base CA) (D : MethT K CA "Bag" "lay" "Bag.lay" T.s_Bag_lay) : LayF P w K mg base CA := by
  refine mkM D T.sc_Bag_lay ?_ (fun f cdv A outer s H E R0 svs th Q hr h => ?_) fun _ _ _ _ _ _ us hl => match us, hl with | [_, _, _], _ => rfl
  · rintro svs th Q ⟨_, _, _, _, _, _, _, _, _, _, _, rfl, _⟩
    rfl
  obtain ⟨a, B, b, j, i, l, n, p, k, pa, pdx, rfl, hin, hl, hlj, hli, hn, hk, hf, hq⟩ := h
  have nd := T.sc_Bag_lay.nd
  have hgk := hin.good.g _ (aget_mem hk)
  refine sb_post (sb_seeX (α := { x : BagX // BagF B.rows b x }) (w' := fun x => opB CA th a B b j x.1) (fun F R s => bag_open s hin.bag) fun ⟨x, hx⟩ => ?_)
  have hce : cellsP B.rows p = cellsZ k.m p.turn p.row p.col := cellsP_of hk
  have hnd : (cellsP B.rows p).Nodup := by rw [hce]; exact cellsZ_nodup _ _ _ _
  have hcl : (cellsP B.rows p).length ≤ 16 := by rw [hce]; exact cellsZ_len hgk _ _ _
  obtain ⟨lst, okL⟩ := hin.ok
  have hfew : b.piles.length ≤ 100 := okL.few
  have hgl : x.gr.length ≤ 100 := by
    rw [hx.2.len]
    have h1 : (gridL B.rows b.piles).length ≤ b.rows * b.cols := okL.cells
    have h2 : b.rows * b.cols ≤ 10 * 10 := Nat.mul_le_mul okL.r10 okL.c10
    omega
  have hbk : (opB CA th a B b j x)[i + 4]? = some (BookT (CA "Book") B) := by
    show (th.set j EmpT)[i]? = _
    rw [List.getElem?_set_ne (Ne.symm hin.ne)]
    exact hin.book
  have hl0 : (th.set j EmpT)[l]? = some (InsS (CA "Pile") pa pdx (pileF p)) := by
    rw [List.getElem?_set_ne (Ne.symm hlj)]
    exact hl
  refine sb_cons (s_dset (D := kdK) (k := .inl n) 1 (u1 hr) (vv 2) (vfld (vv 0) (fld_of 0 rfl (insW_S0 (bagF b B.b x.pd x.gd)) tg.c.c (tg.c.na _ (by decide)) rfl)) (ev_var 1) rfl (dicW_S kdK x.pd (plK x.pl)) (by rw [plK_len hx]; exact Nat.lt_of_le_of_lt hfew (by decide)) ?_)
  rw [plK_new (p := p) (pdx := pdx) (by rw [hx.1]; exact hn)]
  have pf : ∀ (t1 t2 t3 t4 : Thing) (f : Str) (sv : Sv), aget (pileF p) f = some sv → Fld K (t1 :: t2 :: t3 :: t4 :: th.set j EmpT) pa f sv := fun t1 t2 t3 t4 f sv hf => fld_of (l + 4) hl0 (insW_S0 _) tg.p.c (tg.p.na f (pileNames_mem hf)) hf (pileF_own hf)
  refine sb_one (s_for (cellsP B.rows p) prI (vs := [3]) (passes_of rfl) rfl (ei_list (EvV.dat (vmeth (sv := .d (czD (cellsP B.rows p))) fc hr tg.c.c (vv 0) (show IsI _ a (CA "Bag") bagNames from isI_of 0 rfl (insW_S0 (bagF b B.b x.pd x.gd))) (va_cons (vfld (vv 2) (pf _ _ _ _ "kind" _ rfl)) (va_cons (vfld (vv 2) (pf _ _ _ _ "turn" _ rfl)) (va_cons (vfld (vv 2) (pf _ _ _ _ "row" _ rfl)) (va_one (vfld (vv 2) (pf _ _ _ _ "column" _ rfl))))))
      ⟨a, B, i + 4, p.kind, p.turn, p.row, p.col, rfl, fld_of 0 rfl (insW_S0 (bagF b B.b x.pd x.gd)) tg.c.c (tg.c.na _ (by decide)) rfl, hbk, hin.good.g, by rw [hk, hce]⟩)))
    (fun m ρ' w' => w' = InsS (CA "Bag") a x.dx (bagF b B.b x.pd x.gd) :: DicS kdK x.pd (plK (x.pl ++ [⟨n, p, pa, pdx⟩])) :: DicS kdT x.gd (grK (x.gr ++ ((cellsP B.rows p).take m).map fun c => (c, n))) :: Grp (plT (CA "Pile") x.pl) :: th.set j EmpT ∧ ∃ o3, ρ' = [some (.raw (.ref a)), some (.d (.int n)), some (.raw (.ref pa)), o3])
    ⟨by simp [opB, bagThings], _, rfl⟩ ?_ ?_)
  · rintro m c ρ' w' hm ⟨rfl, o3, rfl⟩
    have hml : m < (cellsP B.rows p).length := (List.getElem?_eq_some_iff.mp hm).1
    have hcm : (cellsP B.rows p)[m] = c := (List.getElem?_eq_some_iff.mp hm).2
    have hcc : c ∈ cellsP B.rows p := hcm ▸ List.getElem_mem _
    refine ⟨_, tg_name 3 nd (by decide), ?_⟩
    have hnone : aget (x.gr ++ ((cellsP B.rows p).take m).map fun c => (c, n)) c = none := by
      rw [aget_none, List.map_append, List.mem_append, not_or]
      refine ⟨aget_none.mp (by rw [hx.2.get]; exact hf c hcc), fun hh => ?_⟩
      rw [fst_pair] at hh
      have hdis := (List.nodup_append.mp (by rw [List.take_append_drop]; exact hnd : ((cellsP B.rows p).take m ++ (cellsP B.rows p).drop m).Nodup)).2.2 c hh c
      refine hdis ?_ rfl
      rw [List.drop_eq_getElem_cons hml, hcm]
      exact List.mem_cons_self
    refine sb_one (s_dset (D := kdT) (k := zk c) 2 (u1 hr) (vv 1) (vfld (vv 0) (fld_of 0 rfl (insW_S0 (bagF b B.b x.pd x.gd)) tg.c.c (tg.c.na _ (by decide)) rfl)) (ev_var 3) rfl (dicW_S kdT x.gd _) ?_ ⟨?_, _, rfl⟩)
    · rw [List.length_map, List.length_append, List.length_map, List.length_take]
      exact Nat.lt_of_le_of_lt (show _ ≤ 200 by omega) (by decide)
    · rw [grK_put n hnone, List.append_assoc, List.take_succ_eq_append_getElem hml, List.map_append, hcm]
      rfl
  · rintro ρ' w' ⟨rfl, o3, rfl⟩
    refine ⟨_, fun F R s => ?_, hq⟩
    rw [List.take_length] at s
    have s2 := grp_take (g := 3) (l := l + 4) s rfl hl0 (by omega)
    have e4 : plT (CA "Pile") x.pl ++ [InsS (CA "Pile") pa pdx (pileF p)] = plT (CA "Pile") (x.pl ++ [⟨n, p, pa, pdx⟩]) := by
      unfold plT
      rw [List.map_append]
      rfl
    rw [e4] at s2
    have hF : BagF B.rows (b.withP n p) ⟨x.dx, x.pd, x.gd, x.pl ++ [⟨n, p, pa, pdx⟩], x.gr ++ (cellsP B.rows p).map fun c => (c, n)⟩ := by
      refine ⟨?_, hx.2.lay hnd hf⟩
      show projE (x.pl ++ [_]) = b.piles ++ [(n, p)]
      unfold projE
      rw [List.map_append, ← hx.1]
      rfl
    have s3 := bag_close (j := j) (w := (th.set j EmpT).set l EmpT) hF s2
    rwa [List.set_comm _ _ hlj, List.set_set] at s3
end
end G
end

section
set_option Elab.async false
set_option linter.all false
set_option maxRecDepth 100000
set_option maxHeartbeats 4000000
/-! ### a bag: lift -/
namespace G
open PySem PySem.Spec PyProof.Rows L2 Sh
theorem erase_map {α β : Type} (f : α → β) : ∀ (l : List α) (k : Nat), (l.map f).eraseIdx k = (l.eraseIdx k).map f
  | [], _ => by simp
  | x :: l, 0 => rfl
  | x :: l, k + 1 => by
    show f x :: (l.map f).eraseIdx k = f x :: (l.eraseIdx k).map f
    rw [erase_map f l k]
theorem adrop_filter (g : List (Cz × Int)) (cs : List Cz) (c : Cz) : adrop (g.filter fun q => decide (q.1 ∉ cs)) c = g.filter fun q => decide (q.1 ∉ cs ++ [c]) := by
  unfold adrop
  rw [List.filter_filter]
  congr 1
  funext q
  rw [Bool.eq_iff_iff]
  simp only [Bool.and_eq_true, decide_eq_true_eq, List.mem_append, List.mem_singleton, not_or]
  exact And.comm
theorem aget_filter {g : List (Cz × Int)} {cs : List Cz} {c : Cz} (h : c ∉ cs) : aget (g.filter fun q => decide (q.1 ∉ cs)) c = aget g c := by
  induction g with
  | nil => rfl
  | cons q g ih =>
    by_cases hq : q.1 ∉ cs
    · rw [List.filter_cons_of_pos (by simpa using hq), aget_cons, aget_cons, ih]
    · rw [List.filter_cons_of_neg (by simpa using hq), aget_cons, ih, if_neg (fun z : q.1 = c => hq (by rw [z]; exact h))]
section
variable {P : Program} {w : World} {K : PySem.W.Frag} {mg : Str → Option Value} {base : Heap} {CA : Str → Addr}
abbrev LiftF (P : Program) (w : World) (K : PySem.W.Frag) (mg : Str → Option Value) (base : Heap) (CA : Str → Addr) : Prop := FnM P w K mg base 4 (CA "Bag") "lift" (lift CA (pmW (spLift CA)))
theorem ok_lift (tg : TxtG K mg CA) (fc : CellsOfF P w K mg base CA) (D : MethT K CA "Bag" "lift" "Bag.lift" T.s_Bag_lift) : LiftF P w K mg base CA := by
  refine mkM D T.sc_Bag_lift ?_ (fun f cdv A outer s H E R0 svs th Q hr h => ?_) fun _ _ _ _ _ _ us hl => match us, hl with | [_, _], _ => rfl
  · rintro svs th Q ⟨_, _, _, _, _, _, _, rfl, _⟩
    rfl
  obtain ⟨a, B, b, j, i, n, p, rfl, hin, hp, hq⟩ := h
  have nd := T.sc_Bag_lift.nd
  refine sb_post (sb_seeX (α := { x : BagX // BagF B.rows b x }) (w' := fun x => opB CA th a B b j x.1) (fun F R s => bag_open s hin.bag) fun ⟨x, hx⟩ => ?_)
  obtain ⟨k, hk, hgk, _⟩ := hin.ok.pil _ (aget_mem hp)
  have hce : cellsP B.rows p = cellsZ k.m p.turn p.row p.col := cellsP_of hk
  have hnd : (cellsP B.rows p).Nodup := by rw [hce]; exact cellsZ_nodup _ _ _ _
  have v := bagV_open tg hin hx
  obtain ⟨ei, en, h1, h2, h3, h4⟩ := ent_of (pl := x.pl) (by rw [hx.1]; exact hp)
  have hbk : (th.set j EmpT)[i]? = some (BookT (CA "Book") B) := by
    rw [List.getElem?_set_ne (Ne.symm hin.ne)]
    exact hin.book
  have hnum : ((projE x.pl).map (·.1)).Nodup := by rw [hx.1]; exact hin.ok.num
  have edrop : adrop (plK x.pl) (.inl n) = plK (x.pl.eraseIdx ei) := by
    rw [adrop_erase (k := ei) (v := .raw (.ref en.a)) (plK_nodup hnum) (by rw [List.getElem?_map, h1, ← h2]; rfl)]
    unfold plK
    rw [erase_map]
  have eproj : projE (x.pl.eraseIdx ei) = adrop b.piles n := by
    rw [adrop_erase (k := ei) (v := p) hin.ok.num (by rw [← hx.1, List.getElem?_map, h1, ← h2, ← h3]; rfl), ← hx.1]
    unfold projE
    rw [erase_map]
  refine sb_cons (s_asg 2 nd (es_dpop (D := kdK) (k := .inl n) (sv := .raw (.ref en.a)) kpK 1 (u1 hr) (vb v (vv 0) rfl) (ev_var 1) rfl (dicW_S kdK x.pd (plK x.pl)) h4 ?_))
  rw [edrop]
  have pf : ∀ (t1 t2 t3 : Thing) (f : Str) (sv : Sv), aget (pileF p) f = some sv → Fld K (t1 :: t2 :: t3 :: Grp (plT (CA "Pile") x.pl) :: th.set j EmpT) en.a f sv := fun t1 t2 t3 f sv hf => fld_of 3 rfl (insW_grp (k := ei) (t := InsS (CA "Pile") en.a en.dx (pileF p)) (by rw [List.getElem?_map, h1, ← h3]; rfl) (insW_S0 _)) tg.p.c (tg.p.na f (pileNames_mem hf)) hf (pileF_own hf)
  refine sb_cons (s_for (cellsP B.rows p) prI (vs := [3]) (passes_of rfl) rfl (ei_list (EvV.dat (vmeth (sv := .d (czD (cellsP B.rows p))) fc hr tg.c.c (vv 0) (show IsI _ a (CA "Bag") bagNames from isI_of 0 rfl (insW_S0 (bagF b B.b x.pd x.gd))) (va_cons (vfld (vv 2) (pf _ _ _ "kind" _ rfl)) (va_cons (vfld (vv 2) (pf _ _ _ "turn" _ rfl)) (va_cons (vfld (vv 2) (pf _ _ _ "row" _ rfl)) (va_one (vfld (vv 2) (pf _ _ _ "column" _ rfl))))))
      ⟨a, B, i + 4, p.kind, p.turn, p.row, p.col, rfl, fld_of 0 rfl (insW_S0 (bagF b B.b x.pd x.gd)) tg.c.c (tg.c.na _ (by decide)) rfl, hbk, hin.good.g, by rw [hk, hce]⟩)))
    (fun m ρ' w' => w' = InsS (CA "Bag") a x.dx (bagF b B.b x.pd x.gd) :: DicS kdK x.pd (plK (x.pl.eraseIdx ei)) :: DicS kdT x.gd (grK (x.gr.filter fun q => decide (q.1 ∉ (cellsP B.rows p).take m))) :: Grp (plT (CA "Pile") x.pl) :: th.set j EmpT ∧ ∃ o3, ρ' = [some (.raw (.ref a)), some (.d (.int n)), some (.raw (.ref en.a)), o3])
    ⟨?_, _, rfl⟩ ?_ ?_)
  · rw [List.take_zero, List.filter_eq_self.mpr (fun _ _ => by simp)]
    rfl
  · rintro m c ρ' w' hm ⟨rfl, o3, rfl⟩
    have hml : m < (cellsP B.rows p).length := (List.getElem?_eq_some_iff.mp hm).1
    have hcm : (cellsP B.rows p)[m] = c := (List.getElem?_eq_some_iff.mp hm).2
    have hcc : c ∈ cellsP B.rows p := hcm ▸ List.getElem_mem _
    refine ⟨_, tg_name 3 nd (by decide), ?_⟩
    have hnot : c ∉ (cellsP B.rows p).take m := fun hh => by
      have hdis := (List.nodup_append.mp (by rw [List.take_append_drop]; exact hnd : ((cellsP B.rows p).take m ++ (cellsP B.rows p).drop m).Nodup)).2.2 c hh c
      refine hdis ?_ rfl
      rw [List.drop_eq_getElem_cons hml, hcm]
      exact List.mem_cons_self
    have hsome : aget (x.gr.filter fun q => decide (q.1 ∉ (cellsP B.rows p).take m)) c = some n := by
      rw [aget_filter hnot, hx.2.get]
      exact (ownB_iff hx.2.dis).mpr (mem_gridL.mpr ⟨p, aget_mem hp, hcc⟩)
    refine sb_one (s_expr (es_dpop (D := kdT) (k := zk c) (sv := .d (.int n)) kpT 2 (u1 hr) (vfld (vv 0) (fld_of 0 rfl (insW_S0 (bagF b B.b x.pd x.gd)) tg.c.c (tg.c.na _ (by decide)) rfl)) (ev_var 3) rfl (dicW_S kdT x.gd _) (by rw [grK_get, hsome]; rfl) ⟨?_, _, rfl⟩))
    rw [grK_drop, adrop_filter, List.take_succ_eq_append_getElem hml, hcm]
    rfl
  · rintro ρ' w' ⟨rfl, o3, rfl⟩
    rw [List.take_length]
    refine sb_one (s_ret (es_raw 2 ⟨_, fun F R s => ?_, hq en.a en.dx⟩))
    have s2 := grp_drop (g := 3) (k := ei) (u := InsS (CA "Pile") en.a en.dx (pileF p)) s rfl (by rw [List.getElem?_map, h1, ← h3]; rfl)
    have e4 : (plT (CA "Pile") x.pl).eraseIdx ei = plT (CA "Pile") (x.pl.eraseIdx ei) := by
      unfold plT
      rw [erase_map]
    rw [e4] at s2
    have hF : BagF B.rows (b.without n) ⟨x.dx, x.pd, x.gd, x.pl.eraseIdx ei, x.gr.filter fun q => decide (q.1 ∉ cellsP B.rows p)⟩ := ⟨eproj, hx.2.lift hin.ok.num hp⟩
    have s3 := bag_close (j := j) (w := th.set j EmpT ++ [InsS (CA "Pile") en.a en.dx (pileF p)]) hF s2
    rwa [List.set_append_left _ _ (by rw [List.length_set]; exact (List.getElem?_eq_some_iff.mp hin.bag).1), List.set_set] at s3
end
end G
end

section
set_option Elab.async false
set_option linter.all false
set_option maxRecDepth 100000
set_option maxHeartbeats 4000000
/-! ### a bag changed, plain -/
namespace G
open PySem PySem.Spec PyProof.Rows L2 Sh
def setM (n : Int) (m : Int) (q : Int × Pil) : Int × Pil := if q.1 = n then (q.1, { q.2 with many := m }) else q
def Bag.setMany (b : Bag) (n m : Int) : Bag := { b with piles := b.piles.map (setM n m) }
def Bag.up (b : Bag) : Bag := { b with last := b.last + 1 }
def Bag.put (b : Bag) (p : Pil) : Bag := b.up.withP (b.last + 1) p
def Bag.moved (b : Bag) (n : Int) (p : Pil) : Bag := (b.without n).withP n p
theorem setM_fst (n m : Int) (q : Int × Pil) : (setM n m q).1 = q.1 := by
  unfold setM
  split <;> rfl
theorem setM_cells (ks : Ks) (n m : Int) (q : Int × Pil) : cellsP ks (setM n m q).2 = cellsP ks q.2 := by
  unfold setM
  split <;> rfl
theorem setM_kind (n m : Int) (q : Int × Pil) : (setM n m q).2.kind = q.2.kind ∧ (setM n m q).2.turn = q.2.turn := by
  unfold setM
  split <;> exact ⟨rfl, rfl⟩
theorem gridL_set (ks : Ks) (n m : Int) : ∀ ps : List (Int × Pil), gridL ks (ps.map (setM n m)) = gridL ks ps
  | [] => rfl
  | q :: ps => by
    have ih := gridL_set ks n m ps
    have e : ∀ (q : Int × Pil) (ps : List (Int × Pil)), gridL ks (q :: ps) = ((cellsP ks q.2).map fun c => (c, q.1)) ++ gridL ks ps := fun _ _ => rfl
    rw [List.map_cons, e, e, ih, setM_cells, setM_fst]
theorem aget_setM (n m : Int) (n' : Int) : ∀ ps : List (Int × Pil), aget (ps.map (setM n m)) n' = if n = n' then (aget ps n').map (fun p => { p with many := m }) else aget ps n'
  | [] => by
    split <;> rfl
  | q :: ps => by
    rw [List.map_cons, aget_cons, aget_cons, aget_setM n m n' ps, setM_fst]
    by_cases h1 : q.1 = n'
    · rw [if_pos h1, if_pos h1]
      by_cases h2 : n = n'
      · rw [if_pos h2]
        unfold setM
        rw [if_pos (by rw [h1, h2])]
        rfl
      · rw [if_neg h2]
        unfold setM
        rw [if_neg (by rw [h1]; exact fun z => h2 z.symm)]
    · rw [if_neg h1, if_neg h1]
theorem ownB_congr {ks : Ks} {b b' : Bag} (e : gridL ks b'.piles = gridL ks b.piles) (d : ((gridL ks b.piles).map (·.1)).Nodup) (c : Cz) : ownB ks b' c = ownB ks b c := by
  cases h : ownB ks b c with
  | none =>
    rw [ownB_none] at h ⊢
    rw [e]
    exact h
  | some n =>
    rw [ownB_iff (by rw [e]; exact d), e]
    exact ownB_some h
/-- free for a new pile -/
theorem free_cells {ks : Ks} {b : Bag} {l : List Cz} (h : isFree ks b l none = true) : ∀ c ∈ l, inside b c = true ∧ ownB ks b c = none := fun c hc => by
  have := List.all_eq_true.mp h c hc
  unfold cellOk at this
  rw [Bool.and_eq_true] at this
  refine ⟨this.1, ?_⟩
  cases e : ownB ks b c with
  | none => rfl
  | some n =>
    rw [e] at this
    exact absurd this.2 (by simp [okOwn])
theorem free_but {ks : Ks} {b : Bag} {l : List Cz} {n : Int} (h : isFree ks b l (some n) = true) : ∀ c ∈ l, inside b c = true ∧ ∀ m, ownB ks b c = some m → m = n := fun c hc => by
  have := List.all_eq_true.mp h c hc
  unfold cellOk at this
  rw [Bool.and_eq_true] at this
  refine ⟨this.1, fun m e => ?_⟩
  rw [e] at this
  have h2 := this.2
  simp only [okOwn, decide_eq_true_eq, Option.some.injEq] at h2
  exact h2.symm
section
variable {ks : Ks} {b : Bag}
theorem BagOk.up (h : BagOk ks b) : BagOk ks b.up := ⟨h.r1, h.r10, h.c1, h.c10, h.num, fun q hq => by
  obtain ⟨h1, h2⟩ := h.le q hq
  exact ⟨h1, by show q.1 ≤ b.last + 1; omega⟩, by have := h.last; show 0 ≤ b.last + 1; omega, h.pil, h.dis⟩
theorem BagOk.fresh (h : BagOk ks b) : aget b.up.piles (b.last + 1) = none := by
  rw [aget_none]
  intro hm
  obtain ⟨q, hq, e⟩ := List.mem_map.mp hm
  have := (h.le q hq).2
  omega
theorem BagOk.withP (h : BagOk ks b) {n : Int} {p : Pil} {k : Kd} (hn : aget b.piles n = none) (h1 : 1 ≤ n) (hle : n ≤ b.last) (hk : aget ks p.kind = some k) (g : k.m.Good) (ht : p.turn ∈ turnsK k) (hm : p.many ≤ k.most) (hf : ∀ c ∈ cellsP ks p, inside b c = true ∧ ownB ks b c = none) : BagOk ks (b.withP n p) := by
  refine ⟨h.r1, h.r10, h.c1, h.c10, ?_, ?_, h.last, ?_, ?_⟩
  · show ((b.piles ++ [(n, p)]).map (·.1)).Nodup
    rw [List.map_append, List.nodup_append]
    refine ⟨h.num, by simp, fun a ha c hc e => ?_⟩
    have : c = n := by simpa using hc
    rw [e, this] at ha
    exact aget_none.mp hn ha
  · intro q hq
    rcases List.mem_append.mp hq with hq | hq
    · exact h.le q hq
    · have : q = (n, p) := by simpa using hq
      rw [this]
      exact ⟨h1, hle⟩
  · intro q hq
    rcases List.mem_append.mp hq with hq | hq
    · exact h.pil q hq
    · have : q = (n, p) := by simpa using hq
      rw [this]
      exact ⟨k, hk, g, ht, hm, fun c hc => (hf c hc).1⟩
  · show ((gridL ks (b.piles ++ [(n, p)])).map (·.1)).Nodup
    rw [gridL_app, List.map_append, List.nodup_append, fst_pair]
    refine ⟨h.dis, by rw [cellsP_of hk]; exact cellsZ_nodup _ _ _ _, fun a ha c hc e => ?_⟩
    subst e
    obtain ⟨q, hq, rfl⟩ := List.mem_map.mp ha
    exact ownB_none.mp (hf _ hc).2 q.2 hq
theorem BagOk.setMany (h : BagOk ks b) {n m : Int} {p : Pil} {k : Kd} (hp : aget b.piles n = some p) (hk : aget ks p.kind = some k) (hm : m ≤ k.most) : BagOk ks (b.setMany n m) := by
  have enum : (b.setMany n m).piles.map (·.1) = b.piles.map (·.1) := by
    show (b.piles.map (setM n m)).map (·.1) = _
    rw [List.map_map]
    exact List.map_congr_left fun q _ => setM_fst n m q
  refine ⟨h.r1, h.r10, h.c1, h.c10, by rw [enum]; exact h.num, ?_, h.last, ?_, ?_⟩
  · intro q hq
    obtain ⟨q0, hq0, rfl⟩ := List.mem_map.mp hq
    rw [setM_fst]
    exact h.le q0 hq0
  · intro q hq
    obtain ⟨q0, hq0, rfl⟩ := List.mem_map.mp hq
    obtain ⟨k0, h1, h2, h3, h4, h5⟩ := h.pil q0 hq0
    refine ⟨k0, by rw [(setM_kind n m q0).1]; exact h1, h2, by rw [(setM_kind n m q0).2]; exact h3, ?_, fun c hc => h5 c (by rw [setM_cells] at hc; exact hc)⟩
    unfold setM
    split
    · rename_i e
      have e2 : aget b.piles q0.1 = some q0.2 := aget_of_mem h.num (show (q0.1, q0.2) ∈ b.piles from hq0)
      rw [e, hp] at e2
      cases e2
      rw [hk] at h1
      cases h1
      exact hm
    · exact h4
  · show ((gridL ks (b.piles.map (setM n m))).map (·.1)).Nodup
    rw [gridL_set]
    exact h.dis
theorem gridL_sub {ps ps' : List (Int × Pil)} (h : ps.Sublist ps') : (gridL ks ps).Sublist (gridL ks ps') := by
  unfold gridL
  induction h with
  | slnil => exact List.Sublist.refl _
  | cons a h ih => exact List.Sublist.trans ih (List.sublist_append_right _ _)
  | cons_cons a h ih => exact List.Sublist.append (List.Sublist.refl _) ih
theorem BagOk.without (h : BagOk ks b) (n : Int) : BagOk ks (b.without n) := by
  have hs : (adrop b.piles n).Sublist b.piles := List.filter_sublist
  exact ⟨h.r1, h.r10, h.c1, h.c10, h.num.sublist (hs.map _), fun q hq => h.le q (hs.subset hq), h.last, fun q hq => h.pil q (hs.subset hq), h.dis.sublist ((gridL_sub hs).map _)⟩
theorem without_get (b : Bag) (n : Int) : aget (b.without n).piles n = none := by
  show aget (adrop b.piles n) n = none
  rw [aget_adrop, if_pos rfl]
theorem BagOk.put (h : BagOk ks b) {p : Pil} {k : Kd} (hk : aget ks p.kind = some k) (g : k.m.Good) (hm : p.many ≤ k.most) (hf : fitsK ks b k p.turn p.row p.col none = true) : BagOk ks (b.put p) := by
  unfold fitsK at hf
  rw [Bool.and_eq_true, decide_eq_true_eq] at hf
  refine h.up.withP h.fresh (by have := h.last; omega) (Int.le_refl _) hk g hf.1 hm fun c hc => ?_
  rw [cellsP_of hk] at hc
  exact free_cells hf.2 c hc
theorem BagOk.moved (h : BagOk ks b) {n : Int} {p : Pil} {k : Kd} {t : Nat} {r c : Int} (hp : aget b.piles n = some p) (hk : aget ks p.kind = some k) (g : k.m.Good) (hf : fitsK ks b k t r c (some n) = true) : BagOk ks (b.moved n ⟨p.kind, p.many, t, r, c⟩) ∧ ∀ d ∈ cellsP ks ⟨p.kind, p.many, t, r, c⟩, ownB ks (b.without n) d = none := by
  unfold fitsK at hf
  rw [Bool.and_eq_true, decide_eq_true_eq] at hf
  have hle := h.le _ (aget_mem hp)
  have hmost : p.many ≤ k.most := by
    obtain ⟨k0, h1, _, _, h4, _⟩ := h.pil _ (aget_mem hp)
    rw [hk] at h1
    cases h1
    exact h4
  have hfree : ∀ d ∈ cellsP ks ⟨p.kind, p.many, t, r, c⟩, ownB ks (b.without n) d = none := fun d hd => by
    have hd' : d ∈ cellsZ k.m t r c := by
      rw [cellsP_of (p := ⟨p.kind, p.many, t, r, c⟩) hk] at hd
      exact hd
    rw [ownB_none]
    intro m hm
    obtain ⟨q, hq, hdq⟩ := mem_gridL.mp hm
    have hq2 := List.mem_filter.mp hq
    have := (free_but hf.2 d hd').2 m ((ownB_iff h.dis).mpr (mem_gridL.mpr ⟨q, hq2.1, hdq⟩))
    simp at hq2
    exact hq2.2 this
  refine ⟨(h.without n).withP (without_get b n) hle.1 hle.2 hk g hf.1 hmost fun d hd => ⟨?_, hfree d hd⟩, hfree⟩
  rw [cellsP_of (p := ⟨p.kind, p.many, t, r, c⟩) hk] at hd
  exact (free_but hf.2 d hd).1
end
/-! what the calls answer, and the bag behind them -/
abbrev RB := ResS × Bag
def putD (ks : Ks) (b : Bag) (z : Str) (m : Int) (t : Nat) (r c : Int) : RB := match aget ks z with
  | none => (.ex "BadKind", b)
  | some k => if 1 ≤ m ∧ m ≤ k.most then (if fitsK ks b k t r c none = true then (.ok (.d (.int (b.last + 1))), b.put ⟨z, m, t, r, c⟩) else (.ex "BadPlace", b)) else (.ex "BadNumber", b)
def takeD (b : Bag) (n m : Int) : RB := match aget b.piles n with
  | none => (.ex "BadPile", b)
  | some p => if 1 ≤ m ∧ m ≤ p.many then (.ok (.d .none), if p.many - m = 0 then b.without n else b.setMany n (p.many - m)) else (.ex "BadNumber", b)
def minZ (i j : Int) : Int := if j < i then j else i
def pileUpD (ks : Ks) (b : Bag) (n : Int) (z : Str) (m : Int) : RB := match aget b.piles n with
  | none => (.ex "BadPile", b)
  | some p => if p.kind = z then (if m < 0 then (.ex "BadNumber", b) else match aget ks z with
      | none => (.ex "BadKind", b)
      | some k => (.ok (.d (.int (m - minZ m (k.most - p.many)))), b.setMany n (p.many + minZ m (k.most - p.many)))) else (.ex "BadKind", b)
def moveD (ks : Ks) (b : Bag) (n : Int) (t : Nat) (r c : Int) : RB := match aget b.piles n with
  | none => (.ex "BadPile", b)
  | some p => match aget ks p.kind with
    | none => (.ex "BadKind", b)
    | some k => if fitsK ks b k t r c (some n) = true then (.ok (.d .none), b.moved n ⟨p.kind, p.many, t, r, c⟩) else (.ex "BadPlace", b)
def splitD (ks : Ks) (b : Bag) (n m : Int) (t : Nat) (r c : Int) : RB := match aget b.piles n with
  | none => (.ex "BadPile", b)
  | some p => if 1 ≤ m ∧ m < p.many then (match putD ks b p.kind m t r c with
      | (.ok v, b') => (.ok v, (takeD b' n m).2)
      | (.ex e, _) => (.ex e, b)) else (.ex "BadNumber", b)
def joinD2 (ks : Ks) (b : Bag) (n o : Int) : RB := match aget b.piles n, aget b.piles o with
  | some p, some q => if n = o then (.ex "BadPile", b) else (if q.kind = p.kind then (match aget ks p.kind with
      | none => (.ex "BadKind", b)
      | some k => (.ok (.d (.int (p.many - minZ p.many (k.most - q.many)))), if p.many - minZ p.many (k.most - q.many) < p.many then (takeD (b.setMany o (q.many + minZ p.many (k.most - q.many))) n (minZ p.many (k.most - q.many))).2 else b.setMany o (q.many + minZ p.many (k.most - q.many)))) else (.ex "BadKind", b))
  | _, _ => (.ex "BadPile", b)
end G
end

section
set_option Elab.async false
set_option linter.all false
set_option maxRecDepth 100000
set_option maxHeartbeats 4000000
/-! ### a bag: put, take, pile_up, move, split, join -/
namespace G
open PySem PySem.Spec PyProof.Rows L2 Sh
def BagPos (b : Bag) : Prop := ∀ q ∈ b.piles, 1 ≤ q.2.many
abbrev bagAt (CA : Str → Addr) (a : Addr) (B : Bok) (b : Bag) : Thing := BagT (CA "Bag") (CA "Pile") a B.b B.rows b
theorem InBag.same {CA : Str → Addr} {w : List Thing} {a : Addr} {B : Bok} {b : Bag} {j i : Nat} (h : InBag CA w a B b j i) : w.set j (bagAt CA a B b) = w := by
  obtain ⟨hj, e⟩ := List.getElem?_eq_some_iff.mp h.bag
  have e : w[j] = bagAt CA a B b := e
  rw [← e]
  exact List.set_getElem_self hj
/-- a call that answers r and leaves the bag b' -/
def spB (CA : Str → Addr) (g : List Sv → Bok → Bag → RB → Prop) : Spc := fun svs w Q => ∃ (a : Addr) (B : Bok) (b : Bag) (j i : Nat) (rest : List Sv) (r : ResS) (b' : Bag), svs = .raw (.ref a) :: rest ∧ InBag CA w a B b j i ∧ g rest B b (r, b') ∧ Q r (w.set j (bagAt CA a B b'))
def gPut : List Sv → Bok → Bag → RB → Prop := fun svs B b r => ∃ (z : Str) (m : Int) (t : Nat) (ro co : Int), svs = [.d (.str z), .d (.int m), .d (.int (t : Int)), .d (.int ro), .d (.int co)] ∧ r = putD B.rows b z m t ro co
def gTake : List Sv → Bok → Bag → RB → Prop := fun svs B b r => ∃ (n m : Int), svs = [.d (.int n), .d (.int m)] ∧ r = takeD b n m
def gPileUp : List Sv → Bok → Bag → RB → Prop := fun svs B b r => ∃ (n : Int) (z : Str) (m : Int), svs = [.d (.int n), .d (.str z), .d (.int m)] ∧ r = pileUpD B.rows b n z m
def gMove : List Sv → Bok → Bag → RB → Prop := fun svs B b r => ∃ (n : Int) (t : Nat) (ro co : Int), svs = [.d (.int n), .d (.int (t : Int)), .d (.int ro), .d (.int co)] ∧ r = moveD B.rows b n t ro co
def gSplit : List Sv → Bok → Bag → RB → Prop := fun svs B b r => ∃ (n m : Int) (t : Nat) (ro co : Int), svs = [.d (.int n), .d (.int m), .d (.int (t : Int)), .d (.int ro), .d (.int co)] ∧ r = splitD B.rows b n m t ro co
def gJoin : List Sv → Bok → Bag → RB → Prop := fun svs B b r => ∃ (n o : Int), svs = [.d (.int n), .d (.int o)] ∧ BagPos b ∧ r = joinD2 B.rows b n o
section
variable {X : Cx} {CA : Str → Addr} {R0 : Hp} {ρ : Rho} {w : List Thing} {a : Addr} {B : Bok} {b : Bag} {j i : Nat} {o ne e : Expr} {p1 p2 p3 p4 : Pos} {n : Int} {p : Pil} {OS : Out (List Thing)}
/-- o.last = e -/
theorem s_blastL {m : Int} (tg : TxtG X.K X.mg CA) (h : w[j]? = some (bagAt CA a B b)) (ho : ∀ W, EvV X ((ThW R0).om W) ρ o (.raw (.ref a))) (he : ∀ x, BagF B.rows b x → Ev X ((ThW R0).om (opB CA w a B b j x)) ρ e (.int m)) (o' : OS.nx ρ (w.set j (bagAt CA a B { b with last := m })))
    (hs : swapsWith e (some (.Attribute o "last" p1)) p2.line X.env = pure false := by rfl) : S1 X CA (ThW R0) ρ w (.Assign [.Attribute o "last" p1] e p2) OS := by
  refine s1_post (s1_seeX (α := { x : BagX // BagF B.rows b x }) (w' := fun x => opB CA w a B b j x.1) (fun F R s => bag_open s h) fun ⟨x, hx⟩ => ?_)
  refine s_fset 0 (Ev.v (he x hx)) (ho _) rfl (insW_S0 _) tg.c.c (tg.c.na _ (by decide)) ⟨_, fun F R s => ?_, o'⟩ (hl := by simp [bagF]) (hs := hs)
  have hF : BagF B.rows { b with last := m } x := ⟨hx.1, ⟨hx.2.pm, hx.2.nd⟩⟩
  refine opB_closeN (CA := CA) (a := a) hF ?_
  exact s
theorem s_blast {m : Int} (tg : TxtG X.K X.mg CA) (h : InBag CA w a B b j i) (ho : ∀ W, EvV X ((ThW R0).om W) ρ o (.raw (.ref a))) (he : ∀ x, BagF B.rows b x → Ev X ((ThW R0).om (opB CA w a B b j x)) ρ e (.int m)) (o' : OS.nx ρ (w.set j (bagAt CA a B { b with last := m })))
    (hs : swapsWith e (some (.Attribute o "last" p1)) p2.line X.env = pure false := by rfl) : S1 X CA (ThW R0) ρ w (.Assign [.Attribute o "last" p1] e p2) OS := s_blastL tg h.bag ho he o' hs
theorem map_keep {α : Type} {f : α → α} : ∀ {l : List α}, (∀ x ∈ l, f x = x) → l.map f = l
  | [], _ => rfl
  | x :: l, h => by
    rw [List.map_cons, h x List.mem_cons_self, map_keep fun y hy => h y (List.mem_cons_of_mem _ hy)]
theorem set_setM {ps : List (Int × Pil)} (nd : (ps.map (·.1)).Nodup) {k : Nat} {n : Int} {p : Pil} (h : ps[k]? = some (n, p)) (m : Int) : ps.set k (n, { p with many := m }) = ps.map (setM n m) := by
  induction ps generalizing k with
  | nil => simp at h
  | cons q ps ih =>
    rw [List.map_cons, List.nodup_cons] at nd
    cases k with
    | zero =>
      simp only [List.getElem?_cons_zero, Option.some.injEq] at h
      subst h
      rw [List.set_cons_zero, List.map_cons]
      congr 1
      · unfold setM
        rw [if_pos rfl]
      · exact (map_keep fun q hq => by
          unfold setM
          rw [if_neg (fun z : q.1 = n => nd.1 (by rw [← z]; exact List.mem_map.mpr ⟨q, hq, rfl⟩))]).symm
    | succ k =>
      rw [List.getElem?_cons_succ] at h
      rw [List.set_cons_succ, List.map_cons, ih nd.2 h]
      congr 1
      unfold setM
      rw [if_neg (fun z : q.1 = n => nd.1 (by rw [z]; exact List.mem_map.mpr ⟨_, List.mem_of_getElem? h, rfl⟩))]
/-- o.piles[n].many = e -/
theorem s_bmany {m : Int} (tg : TxtG X.K X.mg CA) (hu : X.A.units + 1 < cLine) (h : InBag CA w a B b j i) (hp : aget b.piles n = some p) (ho : ∀ W, EvV X ((ThW R0).om W) ρ o (.raw (.ref a))) (hn : ∀ W, Ev X ((ThW R0).om W) ρ ne (.int n)) (he : ∀ x, BagF B.rows b x → Ev X ((ThW R0).om (opB CA w a B b j x)) ρ e (.int m)) (o' : OS.nx ρ (w.set j (bagAt CA a B (b.setMany n m))))
    (hb : attributeBase o "piles" X.env (eval o X.env) = eval o X.env := by rfl) (hix : PlainIx ne := by exact fun _ _ => rfl)
    (hs : swapsWith e (some (.Attribute (.Subscript (.Attribute o "piles" p1) ne p2) "many" p3)) p4.line X.env = pure false := by rfl) : S1 X CA (ThW R0) ρ w (.Assign [.Attribute (.Subscript (.Attribute o "piles" p1) ne p2) "many" p3] e p4) OS := by
  refine s1_post (s1_seeX (α := { x : BagX // BagF B.rows b x }) (w' := fun x => opB CA w a B b j x.1) (fun F R s => bag_open s h.bag) fun ⟨x, hx⟩ => ?_)
  obtain ⟨ei, en, h1, h2, h3, h4⟩ := ent_of (pl := x.pl) (by rw [hx.1]; exact hp)
  have hte : (plT (CA "Pile") x.pl)[ei]? = some (InsS (CA "Pile") en.a en.dx (pileF p)) := by
    rw [List.getElem?_map, h1, ← h3]
    rfl
  refine s_fset 3 (Ev.v (he x hx)) (vpile (bagV_open tg h hx) hu (ho _) (hn _) h4 hb hix) rfl (insW_grp hte (insW_S0 _)) tg.p.c (tg.p.na _ (by decide)) ⟨_, fun F R s => ?_, o'⟩ (hl := by simp [pileF]) (hs := hs)
  have ee : (plT (CA "Pile") x.pl).set ei (InsS (CA "Pile") en.a en.dx (putFS "many" (.d (.int m)) (pileF p))) = plT (CA "Pile") (x.pl.set ei ⟨n, { p with many := m }, en.a, en.dx⟩) := by
    unfold plT
    rw [List.map_set]
    rfl
  have ep : plK (x.pl.set ei ⟨n, { p with many := m }, en.a, en.dx⟩) = plK x.pl := by
    unfold plK
    rw [List.map_set]
    refine List.ext_getElem? fun k => ?_
    by_cases hk : ei = k
    · subst hk
      rw [List.getElem?_set_self (by rw [List.length_map]; exact (List.getElem?_eq_some_iff.mp h1).1), List.getElem?_map, h1, ← h2]
      rfl
    · rw [List.getElem?_set_ne hk]
  have hF : BagF B.rows (b.setMany n m) ⟨x.dx, x.pd, x.gd, x.pl.set ei ⟨n, { p with many := m }, en.a, en.dx⟩, x.gr⟩ := by
    refine ⟨?_, ⟨?_, hx.2.nd⟩⟩
    · show projE _ = b.piles.map (setM n m)
      unfold projE
      rw [List.map_set, ← set_setM h.ok.num (k := ei) (p := p) (by rw [← hx.1, List.getElem?_map, h1, ← h2, ← h3]; rfl), ← hx.1]
    · show x.gr.Perm (gridL B.rows (b.piles.map (setM n m)))
      rw [gridL_set]
      exact hx.2.pm
  refine opB_closeN (CA := CA) (a := a) hF ?_
  show Sep F R0 (InsS _ _ _ _ :: DicS kdK x.pd (plK (x.pl.set ei _)) :: DicS kdT x.gd (grK x.gr) :: Grp (plT (CA "Pile") (x.pl.set ei _)) :: w.set j EmpT) R
  rw [ep, ← ee]
  exact s
theorem esa_post {es : List Expr} {OA : List Sv → List Thing → Prop} {Ox : Str → List Thing → Prop} (h : EvSA X CA (ThW R0) ρ w es (fun svs w1 => ∃ w2, Sees R0 w1 w2 ∧ OA svs w2) (fun c w1 => ∃ w2, Sees R0 w1 w2 ∧ Ox c w2)) : EvSA X CA (ThW R0) ρ w es OA Ox := fun F L R H σ g i k Q Wx tk q qx =>
  h F L R H σ g i k Q Wx tk (fun svs w1 vs F' R' H' o s' i' => by
    obtain ⟨w2, hs, o⟩ := o
    exact q svs w2 vs F' R' H' o s' (hs F' R' i')) (fun c w1 F' R' H' o s' i' => by
    obtain ⟨w2, hs, o⟩ := o
    exact qx c w2 F' R' H' o s' (hs F' R' i'))
end
section
variable {P : Program} {w : World} {K : PySem.W.Frag} {mg : Str → Option Value} {base : Heap} {CA : Str → Addr}
abbrev PutF (P : Program) (w : World) (K : PySem.W.Frag) (mg : Str → Option Value) (base : Heap) (CA : Str → Addr) : Prop := FnM P w K mg base 6 (CA "Bag") "put" (lift CA (pmW (spB CA gPut)))
theorem put_none {ks : Ks} {b : Bag} {z : Str} {m : Int} {t : Nat} {r c : Int} (h : aget ks z = none) : putD ks b z m t r c = (.ex "BadKind", b) := by
  unfold putD
  rw [h]
theorem put_some {ks : Ks} {b : Bag} {z : Str} {m : Int} {t : Nat} {r c : Int} {k : Kd} (h : aget ks z = some k) : putD ks b z m t r c = if 1 ≤ m ∧ m ≤ k.most then (if fitsK ks b k t r c none = true then (.ok (.d (.int (b.last + 1))), b.put ⟨z, m, t, r, c⟩) else (.ex "BadPlace", b)) else (.ex "BadNumber", b) := by
  unfold putD
  rw [h]
theorem resS_at {O : Sv → List Thing → Prop} {Ox : Str → List Thing → Prop} {r : ResS} {w W : List Thing} (h : resS O Ox r w) : resS (fun sv w1 => w1 = W ∧ O sv w) (fun c w1 => w1 = W ∧ Ox c w) r W := by
  cases r with
  | ok sv => exact ⟨rfl, h⟩
  | ex c => exact ⟨rfl, h⟩
theorem ok_put (tg : TxtG K mg CA) (fm : ManyF P w K mg base CA) (ff : FitsF P w K mg base CA) (fl : LayF P w K mg base CA) (fp : MPileF P w K mg base CA) (D : MethT K CA "Bag" "put" "Bag.put" T.s_Bag_put) : PutF P w K mg base CA := by
  refine mkM D T.sc_Bag_put ?_ (fun f cdv A outer s H E R0 svs th Q hr h => ?_) fun _ _ _ _ _ _ us hl => match us, hl with | [_, _, _, _, _, _], _ => rfl
  · rintro svs th Q ⟨_, _, _, _, _, _, _, _, rfl, _, ⟨_, _, _, _, _, rfl, _⟩, _⟩
    rfl
  obtain ⟨a, B, b, j, i, rest, r, b', rfl, hin, ⟨z, m, t, ro, co, rfl, hres⟩, hq⟩ := h
  refine sb_cons (s_expr (es_view hin fun x hx => emeth fm (hr.mono (by decide)) tg.c.c (vv 0) (bagV_open tg hin hx).is (va_cons (vv 1) (va_one (vv 2))) ⟨_, ⟨a, B, b, x, z, m, rfl, bagV_open tg hin hx, rfl⟩, resS_at ?_⟩))
  unfold manyRes
  cases ek : aget B.rows z with
  | none =>
    rw [put_none ek] at hres
    cases hres
    rw [hin.same] at hq
    exact hq
  | some k =>
    rw [put_some ek] at hres
    have gk := hin.good.g _ (aget_mem ek)
    by_cases hm : 1 ≤ m ∧ m ≤ k.most
    · rw [if_pos hm] at hres
      show resS _ _ (if 1 ≤ m ∧ m ≤ k.most then _ else _) _
      rw [if_pos hm]
      refine sb_when (v := !fitsK B.rows b k t ro co none) (et_not (et_val (ev_view hin fun x hx => EvV.dat (vmeth ff hr tg.c.c (vv 0) (bagV_open tg hin hx).is (va_cons (vv 1) (va_cons (vv 3) (va_cons (vv 4) (va_one (vv 5))))) ⟨a, B, b, x, z, t, ro, co, rfl, bagV_open tg hin hx, by rw [ek]⟩)))) (fun hv => ?_) (fun hv => ?_)
      · rw [if_neg (by rw [show fitsK B.rows b k t ro co none = false by simpa using hv]; exact Bool.false_ne_true)] at hres
        cases hres
        rw [hin.same] at hq
        exact sb_one (s_raiseT tg.place rfl hq)
      · have hfit : fitsK B.rows b k t ro co none = true := by simpa using hv
        rw [if_pos hfit] at hres
        cases hres
        refine sb_cons (s_blast tg hin (fun W => vv 0) (fun x hx => ev_add (EvV.dat (vb (bagV_open tg hin hx) (vv 0) rfl)) ev_int) ?_)
        have hin1 : InBag CA (th.set j (bagAt CA a B b.up)) a B b.up j i := hin.set hin.ok.up
        show SB _ CA (ThW R0) _ (th.set j (bagAt CA a B b.up)) _ _
        generalize ew : th.set j (bagAt CA a B b.up) = w1 at *
        have hjl : j < w1.length := (List.getElem?_eq_some_iff.mp hin1.bag).1
        have hil : i < w1.length := (List.getElem?_eq_some_iff.mp hin1.book).1
        have hfu : fitsK B.rows b k t ro co none = true := hfit
        unfold fitsK at hfu
        rw [Bool.and_eq_true] at hfu
        refine sb_cons (s_expr (es_post (emethS fl (hr.mono (by decide)) tg.c.c (vv 0) (bag_is j hin1.bag) (esa_cons (EvV.s (vfld (vv 0) (bag_fld j hin1.bag tg.c.c (tg.c.na _ (by decide)) fun pd gd => rfl)) (esa_cons (emake fp (hr.mono (by decide)) (va_cons (vv 1) (va_cons (vv 2) (va_cons (vv 3) (va_cons (vv 4) (va_one (vv 5)))))) fun pa pdx hne =>
          ⟨w1, pa, pdx, ⟨z, m, t, ro, co⟩, rfl, hne, rfl, rfl, esa_nil ⟨a, B, b.up, j, i, w1.length, b.last + 1, ⟨z, m, t, ro, co⟩, k, pa, pdx, rfl, hin1.app.l, at_last _ _, by omega, by omega, hin.ok.fresh, ek, fun c hc => ?_, ?_⟩⟩)))))))
        · rw [cellsP_of (p := ⟨z, m, t, ro, co⟩) ek] at hc
          exact (free_cells hfu.2 c hc).2
        · refine ⟨w1.set j (bagAt CA a B (b.put ⟨z, m, t, ro, co⟩)), fun F R s => ?_, ?_⟩
          · rw [List.set_append_left _ _ hjl, show w1.length = (w1.set j (bagAt CA a B (b.put ⟨z, m, t, ro, co⟩))).length by rw [List.length_set]] at s
            rw [show (w1.set j (BagT (CA "Bag") (CA "Pile") a B.b B.rows (b.up.withP (b.last + 1) ⟨z, m, t, ro, co⟩)) ++ [InsS (CA "Pile") pa pdx (pileF ⟨z, m, t, ro, co⟩)]).set (w1.set j (bagAt CA a B (b.put ⟨z, m, t, ro, co⟩))).length EmpT = w1.set j (bagAt CA a B (b.put ⟨z, m, t, ro, co⟩)) ++ [EmpT] from set_last _ _ _] at s
            exact s.drop
          · have hin2 : InBag CA (w1.set j (bagAt CA a B (b.put ⟨z, m, t, ro, co⟩))) a B (b.put ⟨z, m, t, ro, co⟩) j i := hin1.set (hin.ok.put ek gk hm.2 hfit)
            refine sb_one (s_ret (EvV.s (sv := .d (.int (b.last + 1))) (vfld (vv 0) (bag_fld j hin2.bag tg.c.c (tg.c.na _ (by decide)) fun pd gd => rfl)) ?_))
            rw [← ew, List.set_set]
            exact hq
    · rw [if_neg hm] at hres
      show resS _ _ (if 1 ≤ m ∧ m ≤ k.most then _ else _) _
      rw [if_neg hm]
      cases hres
      rw [hin.same] at hq
      exact hq
end
end G
end

section
set_option Elab.async false
set_option linter.all false
set_option maxRecDepth 100000
set_option maxHeartbeats 4000000
/-! ### a bag: take, pile_up, move, split, join -/
namespace G
open PySem PySem.Spec PyProof.Rows L2 Sh
theorem set_drop (n m : Int) : ∀ ps : List (Int × Pil), adrop (ps.map (setM n m)) n = adrop ps n
  | [] => rfl
  | q :: ps => by
    have ih := set_drop n m ps
    unfold adrop at ih ⊢
    rw [List.map_cons]
    by_cases h : q.1 = n
    · rw [List.filter_cons_of_neg (by rw [setM_fst]; simpa using h), List.filter_cons_of_neg (by simpa using h), ih]
    · rw [List.filter_cons_of_pos (by rw [setM_fst]; simpa using h), List.filter_cons_of_pos (by simpa using h), ih]
      unfold setM
      rw [if_neg h]
theorem set_without (b : Bag) (n m : Int) : (b.setMany n m).without n = b.without n := by
  show ({ b with piles := adrop (b.piles.map (setM n m)) n } : Bag) = _
  rw [set_drop]
  rfl
theorem setMany_get {b : Bag} {n m : Int} {p : Pil} (h : aget b.piles n = some p) : aget (b.setMany n m).piles n = some { p with many := m } := by
  show aget (b.piles.map (setM n m)) n = _
  rw [aget_setM, if_pos rfl, h]
  rfl
section
variable {P : Program} {w : World} {K : PySem.W.Frag} {mg : Str → Option Value} {base : Heap} {CA : Str → Addr}
/-- self.need(number) in a bag's def -/
theorem es_need {X : Cx} {R0 : Hp} {ρ : Rho} {th : List Thing} {a : Addr} {B : Bok} {b : Bag} {j i : Nat} {n : Int} {o ne : Expr} {p1 p2 : Pos} {O : Sv → List Thing → Prop} {Ox : Str → List Thing → Prop} {pl : Sem Bool} (tg : TxtG X.K X.mg CA) (fn : BNeedF X.prog X.w X.K X.mg X.base CA) (hr : Room 1 X.A) (hin : InBag CA th a B b j i) (ho : ∀ W, EvV X ((ThW R0).om W) ρ o (.raw (.ref a))) (hn : ∀ W, Ev X ((ThW R0).om W) ρ ne (.int n))
    (h : resS O Ox (if (aget b.piles n).isSome then .ok (.d .none) else .ex "BadPile") th)
    (hst : starEach [ne] X.env = (false, eval ne X.env) :: starEach [] X.env := by rfl) (hpl : (backTo p2 (starEach [] X.env)).any (·.1) = false := by rfl)
    (ht : eval (.Call (.Attribute o "need" p1) [ne] [] p2) X.env = (do
      let ov ← eval o X.env
      standAt p1.atName
      let (f, first) ← holding [ov] (getMethod ov "need" pl)
      callWith p2 f first (backTo p2 (starEach [ne] X.env)) (backToKw p2 (keywordEach [] X.env))) := by rfl) : EvS X CA (ThW R0) ρ th (.Call (.Attribute o "need" p1) [ne] [] p2) O Ox :=
  es_view hin fun x hx => emeth fn hr tg.c.c (ho _) (bagV_open tg hin hx).is (va_one (Ev.v (hn _)) rfl hst) ⟨_, ⟨a, B, b, x, n, rfl, bagV_open tg hin hx, rfl⟩, resS_at h⟩ (by decide) hst hpl ht
abbrev TakeF (P : Program) (w : World) (K : PySem.W.Frag) (mg : Str → Option Value) (base : Heap) (CA : Str → Addr) : Prop := FnM P w K mg base 5 (CA "Bag") "take" (lift CA (pmW (spB CA gTake)))
theorem ok_take (tg : TxtG K mg CA) (fn : BNeedF P w K mg base CA) (fl : LiftF P w K mg base CA) (D : MethT K CA "Bag" "take" "Bag.take" T.s_Bag_take) : TakeF P w K mg base CA := by
  refine mkM D T.sc_Bag_take ?_ (fun f cdv A outer s H E R0 svs th Q hr h => ?_) fun _ _ _ _ _ _ us hl => match us, hl with | [_, _, _], _ => rfl
  · rintro svs th Q ⟨_, _, _, _, _, _, _, _, rfl, _, ⟨_, _, rfl, _⟩, _⟩
    rfl
  obtain ⟨a, B, b, j, i, rest, r, b', rfl, hin, ⟨n, m, rfl, hres⟩, hq⟩ := h
  unfold takeD at hres
  refine sb_cons (s_expr (es_need tg fn (hr.mono (by decide)) hin (fun W => vv 0) (fun W => ev_var 1) ?_))
  cases ep : aget b.piles n with
  | none =>
    rw [ep] at hres
    cases hres
    rw [hin.same] at hq
    exact hq
  | some p =>
    rw [ep] at hres
    have hres : (r, b') = if 1 ≤ m ∧ m ≤ p.many then (.ok (.d .none), if p.many - m = 0 then b.without n else b.setMany n (p.many - m)) else (.ex "BadNumber", b) := hres
    obtain ⟨k, hk, gk, ht, hmost, _⟩ := hin.ok.pil _ (aget_mem ep)
    refine sb_when (v := !(decide (1 ≤ m) && decide (m ≤ p.many))) (et_not (et_lele ev_int (ev_var 2) (ev_view hin fun x hx => ev_pile (bagV_open tg hin hx) (u1 hr) ep rfl (vv 0) (ev_var 1)))) (fun hv => ?_) (fun hv => ?_)
    · rw [if_neg (by intro hh; rw [decide_eq_true hh.1, decide_eq_true hh.2] at hv; cases hv)] at hres
      cases hres
      rw [hin.same] at hq
      exact sb_one (s_raiseT tg.num rfl hq)
    · have hv : (decide (1 ≤ m) && decide (m ≤ p.many)) = true := by simpa using hv
      rw [Bool.and_eq_true, decide_eq_true_eq, decide_eq_true_eq] at hv
      rw [if_pos hv] at hres
      cases hres
      refine sb_cons (s_bmany tg (u1 hr) hin ep (fun W => vv 0) (fun W => ev_var 1) (fun x hx => ev_sub (ev_pile (bagV_open tg hin hx) (u1 hr) ep rfl (vv 0) (ev_var 1)) (ev_var 2)) ?_)
      have hin1 : InBag CA (th.set j (bagAt CA a B (b.setMany n (p.many - m)))) a B (b.setMany n (p.many - m)) j i := hin.set (hin.ok.setMany ep hk (by have : p.many ≤ k.most := hmost; omega))
      have ep1 : aget (b.setMany n (p.many - m)).piles n = some { p with many := p.many - m } := setMany_get ep
      refine sb_one (s_if (EvT.s (v := decide (p.many - m = 0)) (et_eqI (ev_view hin1 fun x hx => ev_pile (bagV_open tg hin1 hx) (u1 hr) ep1 rfl (vv 0) (ev_var 1)) ev_int) ⟨fun h0 => ?_, fun h0 => ?_⟩))
      · rw [if_pos (of_decide_eq_true h0)] at hq
        refine sb_one (s_expr (es_post (emeth fl hr tg.c.c (vv 0) (bag_is j hin1.bag) (va_one (vv 1)) ⟨a, B, _, j, i, n, _, rfl, hin1, ep1, fun pa pdx => ⟨th.set j (bagAt CA a B (b.without n)), fun F R s => ?_, hq⟩⟩)))
        rw [set_without, List.set_set] at s
        exact s.drop
      · rw [if_neg (of_decide_eq_false h0)] at hq
        exact sb_nil hq
abbrev PileUpF (P : Program) (w : World) (K : PySem.W.Frag) (mg : Str → Option Value) (base : Heap) (CA : Str → Addr) : Prop := FnM P w K mg base 3 (CA "Bag") "pile_up" (lift CA (pmW (spB CA gPileUp)))
theorem ok_pile_up (hmn : mg "min" = none) (tg : TxtG K mg CA) (fn : BNeedF P w K mg base CA) (fm : BMostF P w K mg base CA) (D : MethT K CA "Bag" "pile_up" "Bag.pile_up" T.s_Bag_pile_up) : PileUpF P w K mg base CA := by
  refine mkM D T.sc_Bag_pile_up ?_ (fun f cdv A outer s H E R0 svs th Q hr h => ?_) fun _ _ _ _ _ _ us hl => match us, hl with | [_, _, _, _], _ => rfl
  · rintro svs th Q ⟨_, _, _, _, _, _, _, _, rfl, _, ⟨_, _, _, rfl, _⟩, _⟩
    rfl
  obtain ⟨a, B, b, j, i, rest, r, b', rfl, hin, ⟨n, z, m, rfl, hres⟩, hq⟩ := h
  have nd := T.sc_Bag_pile_up.nd
  unfold pileUpD at hres
  refine sb_cons (s_expr (es_need tg fn (hr.mono (by decide)) hin (fun W => vv 0) (fun W => ev_var 1) ?_))
  cases ep : aget b.piles n with
  | none =>
    rw [ep] at hres
    cases hres
    rw [hin.same] at hq
    exact hq
  | some p =>
    rw [ep] at hres
    have hres : (r, b') = if p.kind = z then (if m < 0 then (.ex "BadNumber", b) else match aget B.rows z with
      | none => (.ex "BadKind", b)
      | some k => (.ok (.d (.int (m - minZ m (k.most - p.many)))), b.setMany n (p.many + minZ m (k.most - p.many)))) else (.ex "BadKind", b) := hres
    obtain ⟨k, hk, gk, ht, hmost, _⟩ := hin.ok.pil _ (aget_mem ep)
    have hk : aget B.rows p.kind = some k := hk
    have hmost : p.many ≤ k.most := hmost
    refine sb_when (v := !decide (p.kind = z)) (et_neS (ev_view hin fun x hx => ev_pile (bagV_open tg hin hx) (u1 hr) ep rfl (vv 0) (ev_var 1)) (ev_var 2)) (fun hv => ?_) (fun hv => ?_)
    · rw [if_neg (by simpa using hv)] at hres
      cases hres
      rw [hin.same] at hq
      exact sb_one (s_raiseT tg.kind rfl hq)
    have hz : p.kind = z := by simpa using hv
    rw [if_pos hz] at hres
    refine sb_when (v := decide (m < 0)) (et_lt (ev_var 3) ev_int) (fun hv => ?_) (fun hv => ?_)
    · rw [if_pos (of_decide_eq_true hv)] at hres
      cases hres
      rw [hin.same] at hq
      exact sb_one (s_raiseT tg.num rfl hq)
    rw [if_neg (of_decide_eq_false hv), ← hz, hk] at hres
    cases hres
    refine sb_cons (s_asg 4 nd (Ev.s (d := .int (minZ m (k.most - p.many))) (ev_view hin fun x hx => ?_) ?_))
    · obtain ⟨i2, hi2⟩ := (bagV_open tg hin hx).bk
      exact ev_min2 rfl hmn (ev_var 3) (ev_sub (EvV.dat (vmeth fm hr tg.b.c (vb (bagV_open tg hin hx) (vv 0) rfl) (book_is i2 hi2) (va_one (vv 2)) ⟨i2, B, z, rfl, hi2, by rw [← hz, hk]⟩)) (ev_pile (bagV_open tg hin hx) (u1 hr) ep rfl (vv 0) (ev_var 1)))
    · refine sb_cons (s_bmany tg (u1 hr) hin ep (fun W => vv 0) (fun W => ev_var 1) (fun x hx => ev_add (ev_pile (bagV_open tg hin hx) (u1 hr) ep rfl (vv 0) (ev_var 1)) (ev_var 4)) ?_)
      exact sb_one (s_ret (Ev.s (ev_sub (ev_var 3) (ev_var 4)) hq))
end
end G
end

section
set_option Elab.async false
set_option linter.all false
set_option maxRecDepth 100000
set_option maxHeartbeats 4000000
/-! ### a bag: move, split, join -/
namespace G
open PySem PySem.Spec PyProof.Rows L2 Sh
section
variable {P : Program} {w : World} {K : PySem.W.Frag} {mg : Str → Option Value} {base : Heap} {CA : Str → Addr}
abbrev MoveF (P : Program) (w : World) (K : PySem.W.Frag) (mg : Str → Option Value) (base : Heap) (CA : Str → Addr) : Prop := FnM P w K mg base 5 (CA "Bag") "move" (lift CA (pmW (spB CA gMove)))
abbrev SplitF (P : Program) (w : World) (K : PySem.W.Frag) (mg : Str → Option Value) (base : Heap) (CA : Str → Addr) : Prop := FnM P w K mg base 7 (CA "Bag") "split" (lift CA (pmW (spB CA gSplit)))
theorem put_get {b : Bag} {n : Int} {p q : Pil} (h : aget b.piles n = some p) : aget (b.put q).piles n = some p := by
  show aget (b.piles ++ [(b.last + 1, q)]) n = _
  rw [aget_append, h]
  rfl
abbrev JoinF (P : Program) (w : World) (K : PySem.W.Frag) (mg : Str → Option Value) (base : Heap) (CA : Str → Addr) : Prop := FnM P w K mg base 6 (CA "Bag") "join" (lift CA (pmW (spB CA gJoin)))
theorem ok_join (tg : TxtG K mg CA) (fn : BNeedF P w K mg base CA) (fu : PileUpF P w K mg base CA) (ft : TakeF P w K mg base CA) (D : MethT K CA "Bag" "join" "Bag.join" T.s_Bag_join) : JoinF P w K mg base CA := by
  refine mkM D T.sc_Bag_join ?_ (fun f cdv A outer s H E R0 svs th Q hr h => ?_) fun _ _ _ _ _ _ us hl => match us, hl with | [_, _, _], _ => rfl
  · rintro svs th Q ⟨_, _, _, _, _, _, _, _, rfl, _, ⟨_, _, rfl, _⟩, _⟩
    rfl
  obtain ⟨a, B, b, j, i, rest, r, b', rfl, hin, ⟨n, o, rfl, hpos, hres⟩, hq⟩ := h
  have nd := T.sc_Bag_join.nd
  unfold joinD2 at hres
  refine sb_cons (s_expr (es_need tg fn (hr.mono (by decide)) hin (fun W => vv 0) (fun W => ev_var 1) ?_))
  cases ep : aget b.piles n with
  | none =>
    rw [ep] at hres
    cases hres
    rw [hin.same] at hq
    exact hq
  | some p =>
    refine sb_cons (s_expr (es_need tg fn (hr.mono (by decide)) hin (fun W => vv 0) (fun W => ev_var 2) ?_))
    cases eo : aget b.piles o with
    | none =>
      rw [ep, eo] at hres
      cases hres
      rw [hin.same] at hq
      exact hq
    | some q =>
      rw [ep, eo] at hres
      obtain ⟨k, hk, gk, ht, hmost, _⟩ := hin.ok.pil _ (aget_mem ep)
      have hk : aget B.rows p.kind = some k := hk
      have hmost : p.many ≤ k.most := hmost
      have hp1 : 1 ≤ p.many := hpos _ (aget_mem ep)
      refine sb_when (v := decide (n = o)) (et_eqI (ev_var 1) (ev_var 2)) (fun hv => ?_) (fun hv => ?_)
      · simp only [if_pos (of_decide_eq_true hv)] at hres
        cases hres
        rw [hin.same] at hq
        exact sb_one (s_raiseT tg.pile rfl hq)
      have hno : n ≠ o := of_decide_eq_false hv
      simp only [if_neg hno] at hres
      refine sb_cons (s_asg 3 nd (emeth fu (hr.mono (by decide)) tg.c.c (vv 0) (bag_is j hin.bag) (va_cons (vv 2) (va_cons (Ev.v (ev_view hin fun x hx => ev_pile (bagV_open tg hin hx) (u1 hr) ep rfl (vv 0) (ev_var 1))) (va_one (Ev.v (ev_view hin fun x hx => ev_pile (bagV_open tg hin hx) (u1 hr) ep rfl (vv 0) (ev_var 1)))))) ⟨a, B, b, j, i, _, (pileUpD B.rows b o p.kind p.many).1, (pileUpD B.rows b o p.kind p.many).2, rfl, hin, ⟨o, p.kind, p.many, rfl, rfl⟩, ?_⟩))
      have epu : pileUpD B.rows b o p.kind p.many = if q.kind = p.kind then (.ok (.d (.int (p.many - minZ p.many (k.most - q.many)))), b.setMany o (q.many + minZ p.many (k.most - q.many))) else (.ex "BadKind", b) := by
        unfold pileUpD
        rw [eo]
        show (if q.kind = p.kind then (if p.many < 0 then _ else _) else _) = _
        split
        · rw [if_neg (by omega), hk]
        · rfl
      rw [epu]
      by_cases hkk : q.kind = p.kind
      · rw [if_pos hkk]
        simp only [if_pos hkk, hk] at hres
        have hqm : q.many ≤ k.most := by
          obtain ⟨k2, hk2, _, _, h5, _⟩ := hin.ok.pil _ (aget_mem eo)
          have hk2 : aget B.rows q.kind = some k2 := hk2
          rw [hkk, hk] at hk2
          cases hk2
          exact h5
        generalize hmm : minZ p.many (k.most - q.many) = more at *
        have hmore0 : 0 ≤ more := by rw [← hmm]; unfold minZ; split <;> omega
        have hmoreP : more ≤ p.many := by rw [← hmm]; unfold minZ; split <;> omega
        have hmoreQ : more ≤ k.most - q.many := by rw [← hmm]; unfold minZ; split <;> omega
        have hin2 : InBag CA (th.set j (bagAt CA a B (b.setMany o (q.many + more)))) a B (b.setMany o (q.many + more)) j i := hin.set (hin.ok.setMany eo (by rw [hkk]; exact hk) (by omega))
        have ep2 : aget (b.setMany o (q.many + more)).piles n = some p := by
          show aget (b.piles.map (setM o (q.many + more))) n = _
          rw [aget_setM, if_neg (fun z => hno z.symm), ep]
        refine sb_cons (s_if (EvT.s (v := decide (p.many - more < p.many)) (et_lt (ev_var 3) (ev_view hin2 fun x hx => ev_pile (bagV_open tg hin2 hx) (u1 hr) ep2 rfl (vv 0) (ev_var 1))) ⟨fun hv2 => ?_, fun hv2 => ?_⟩))
        · rw [if_pos (of_decide_eq_true hv2)] at hres
          cases hres
          have ea : p.many - (p.many - more) = more := by omega
          refine sb_one (s_expr (emeth ft hr tg.c.c (vv 0) (bag_is j hin2.bag) (va_cons (vv 1) (va_one (Ev.v (Ev.is (ev_sub (ev_view hin2 fun x hx => ev_pile (bagV_open tg hin2 hx) (u1 hr) ep2 rfl (vv 0) (ev_var 1)) (ev_var 3)) (by rw [ea]))))) ⟨a, B, _, j, i, _, (takeD (b.setMany o (q.many + more)) n more).1, (takeD (b.setMany o (q.many + more)) n more).2, rfl, hin2, ⟨n, more, rfl, rfl⟩, ?_⟩))
          have h1more : 1 ≤ more := by have := of_decide_eq_true hv2; omega
          have et : (takeD (b.setMany o (q.many + more)) n more).1 = .ok (.d .none) := by
            unfold takeD
            rw [ep2]
            show (if 1 ≤ more ∧ more ≤ p.many then ((.ok (.d .none), _) : RB) else _).1 = _
            rw [if_pos ⟨h1more, hmoreP⟩]
          rw [et, List.set_set]
          exact sb_one (s_ret (Ev.s (ev_var 3) hq))
        · rw [if_neg (of_decide_eq_false hv2)] at hres
          cases hres
          exact sb_nil (sb_one (s_ret (Ev.s (ev_var 3) hq)))
      · rw [if_neg hkk]
        simp only [if_neg hkk] at hres
        cases hres
        exact hq
end
end G
end

section
set_option Elab.async false
set_option linter.all false
set_option maxRecDepth 100000
set_option maxHeartbeats 8000000
/-! ### a bag: twin, become -/
namespace G
open PySem PySem.Spec PyProof.Rows L2 Sh
def spTwin (CA : Str → Addr) : Spc := fun svs w Q => ∃ (a : Addr) (B : Bok) (b : Bag) (j i : Nat), svs = [.raw (.ref a)] ∧ InBag CA w a B b j i ∧ ∀ fa, Q (.ok (.raw (.ref fa))) (w ++ [bagAt CA fa B b])
def spBecome (CA : Str → Addr) : Spc := fun svs w Q => ∃ (a o : Addr) (B : Bok) (b c : Bag) (j l i : Nat), svs = [.raw (.ref a), .raw (.ref o)] ∧ InBag CA w a B b j i ∧ InBag CA w o B c l i ∧ j ≠ l ∧ c.rows = b.rows ∧ c.cols = b.cols ∧ Q (.ok (.d .none)) ((w.set j (bagAt CA a B c)).set l EmpT)
/-- the first piles of a bag -/
def Bag.firsts (b : Bag) (n : Nat) : Bag := ⟨b.rows, b.cols, 0, b.piles.take n⟩
theorem firsts_ok {ks : Ks} {b : Bag} (h : BagOk ks b) (n : Nat) : BagOk ks { b.firsts n with last := b.last } := by
  have hs : (b.piles.take n).Sublist b.piles := List.take_sublist _ _
  exact ⟨h.r1, h.r10, h.c1, h.c10, h.num.sublist (hs.map _), fun q hq => h.le q (hs.subset hq), h.last, fun q hq => h.pil q (hs.subset hq), h.dis.sublist ((gridL_sub hs).map _)⟩
theorem take_app {α : Type} {l : List α} {n : Nat} {x : α} (h : l[n]? = some x) : l.take (n + 1) = l.take n ++ [x] := by
  obtain ⟨hn, e⟩ := List.getElem?_eq_some_iff.mp h
  rw [List.take_succ_eq_append_getElem hn, e]
theorem firsts_step {b : Bag} {n : Nat} {m : Int} {p : Pil} (h : b.piles[n]? = some (m, p)) : (b.firsts n).withP m p = b.firsts (n + 1) := by
  unfold Bag.withP Bag.firsts
  rw [take_app h]
theorem firsts_free {ks : Ks} {b : Bag} (ok : BagOk ks b) {n : Nat} {m : Int} {p : Pil} (h : b.piles[n]? = some (m, p)) : aget (b.firsts n).piles m = none ∧ ∀ c ∈ cellsP ks p, ownB ks (b.firsts n) c = none := by
  have e := take_app h
  have hs : (b.piles.take (n + 1)).Sublist b.piles := List.take_sublist _ _
  have h1 : ((b.piles.take (n + 1)).map (·.1)).Nodup := ok.num.sublist (hs.map _)
  have h2 : ((gridL ks (b.piles.take (n + 1))).map (·.1)).Nodup := ok.dis.sublist ((gridL_sub hs).map _)
  rw [e] at h1 h2
  constructor
  · rw [aget_none]
    intro hm
    rw [List.map_append, List.nodup_append] at h1
    exact h1.2.2 m hm m (by simp) rfl
  · intro c hc
    rw [ownB_none]
    intro k hk
    rw [gridL_app, List.map_append, List.nodup_append] at h2
    refine h2.2.2 c (List.mem_map.mpr ⟨_, hk, rfl⟩) c ?_ rfl
    rw [fst_pair]
    exact hc
section
variable {P : Program} {w : World} {K : PySem.W.Frag} {mg : Str → Option Value} {base : Heap} {CA : Str → Addr}
abbrev TwinF (P : Program) (w : World) (K : PySem.W.Frag) (mg : Str → Option Value) (base : Heap) (CA : Str → Addr) : Prop := FnM P w K mg base 5 (CA "Bag") "twin" (lift CA (pmW (spTwin CA)))
abbrev BecomeF (P : Program) (w : World) (K : PySem.W.Frag) (mg : Str → Option Value) (base : Heap) (CA : Str → Addr) : Prop := FnM P w K mg base 1 (CA "Bag") "become" (lift CA (pmW (spBecome CA)))
end
end G
end

section
set_option Elab.async false
set_option linter.all false
set_option maxRecDepth 100000
set_option maxHeartbeats 4000000
/-! ### {"a": x, ..} as a thing; tuples of any values -/
namespace G
open PySem PySem.Spec PyProof.Rows L2
def EvSL (X : Cx) (CA : Str → Addr) (Y : Wd) (ρ : Rho) (Ox : Str → Y.W → Prop) : List Expr → Y.W → (List Sv → Y.W → Prop) → Prop
  | [], w, O => O [] w
  | e :: es, w, O => EvS X CA Y ρ w e (fun sv w1 => EvSL X CA Y ρ Ox es w1 fun svs w2 => O (sv :: svs) w2) Ox
theorem merge_new {κ : Type} [DecidableEq κ] : ∀ {more kvs : List (κ × V)}, ((kvs ++ more).map (·.1)).Nodup → more.foldl (fun acc kv => putK acc kv.1 kv.2) kvs = kvs ++ more
  | [], kvs, _ => by simp
  | p :: more, kvs, h => by
    show more.foldl _ (putK kvs p.1 p.2) = _
    have hn : aget kvs p.1 = none := by
      rw [aget_none]
      intro hm
      rw [List.map_append, List.nodup_append] at h
      exact h.2.2 _ hm _ (by simp) rfl
    rw [putK_aput, aput_new _ hn]
    have : ((kvs ++ [(p.1, p.2)]) ++ more) = kvs ++ p :: more := by simp
    rw [merge_new (by rw [this]; exact h), this]
section
variable {X : Cx} {CA : Str → Addr} {R0 : Hp} {ρ : Rho} {w : List Thing} {pos : Pos} {O : Sv → List Thing → Prop} {Ox : Str → List Thing → Prop}
/-- values in turn, behind constant keys -/
theorem sl_pairs {σ : L2.St} {Wx : WX} (tk : Takes X Wx) : ∀ (kvs : List (Str × Expr)) (w : List Thing) (F L R H : Hp) (O : List Sv → List Thing → Prop) (Q : List (V × V) → Hp → Prop), Sg F L σ ρ → Sep F R0 w R → Ok F L R H → EvSL X CA (ThW R0) ρ Ox (kvs.map (·.2)) w O → ToX CA (ThW R0) F L σ Ox Wx →
    (∀ svs w' vs F' R' H', vs.length = kvs.length → O svs w' → Same F F' → Sep F' R0 w' R' → Paired (fun v sv => RpS F' L v sv ∧ isOwn sv = false) vs svs → Ok F' L R' H' → Q ((kvs.map fun kv => V.str kv.1).zip vs) H') → tPairs (kvs.map fun kv => ((tC (.str kv.1) : TE), wE X kv.2)) σ H Q
  | [], w, F, L, R, H, O, Q, g, i, k, h, qx, q => q [] w [] F R H rfl h (Same.refl F) i .nil k
  | kv :: kvs, w, F, L, R, H, O, Q, g, i, k, h, qx, q => by
    show wE X kv.2 σ H _
    refine h F L R H σ g i k _ Wx tk (fun sv w1 v F1 R1 H1 o1 s1 i1 r1 n1 k1 => ?_) qx
    refine sl_pairs tk kvs w1 F1 L R1 H1 _ _ (g.mono s1) i1 k1 o1 (qx.same s1) fun svs w2 vs F2 R2 H2 l2 o2 s2 i2 r2 k2 => ?_
    exact q (sv :: svs) w2 (v :: vs) F2 R2 H2 (by rw [List.length_cons, List.length_cons, l2]) o2 (s1.trans s2) i2 (.cons ⟨r1.mono s2, n1⟩ r2) k2
theorem pps_of : ∀ (kvs : List (Str × Expr)) (js : List (Nat × Pos)), js.length = kvs.length → PPs X pos ((kvs.zip js).map fun q => some (.Constant (.str q.1.1) q.2.1 q.2.2)) (kvs.map (·.2)) (kvs.map fun kv => ((tC (.str kv.1) : TE), wE X kv.2))
  | [], [], _ => pps_nil
  | kv :: kvs, j :: js, h => pps_cons pe_str (pe_w kv.2) (pps_of kvs js (by simpa using h))
theorem rpk_zip {F : Hp} : ∀ {ks : List L2.Key} {vs : List V} {svs : List Sv}, Paired (fun v sv => RpS F no v sv ∧ isOwn sv = false) vs svs → ks.length = vs.length → RpK F (ks.zip vs) (ks.zip svs)
  | [], _, _, .nil, _ => .nil
  | k :: ks, _, _, .cons h r, hl => .cons ⟨rfl, h.1, h.2⟩ (rpk_zip r (by simpa using hl))
  | k :: ks, _, _, .nil, hl => by simp at hl
theorem es_disp (kvs : List (Str × Expr)) (js : List (Nat × Pos)) (hjs : js.length = kvs.length) (hne : kvs ≠ []) (hl : kvs.length ≤ 15) (hnd : (kvs.map (·.1)).Nodup)
    (h : ∀ p, EvSL X CA (ThW R0) ρ Ox (kvs.map (·.2)) (w ++ [DicS kdK p []]) fun svs w2 => w2[w.length]? = some (DicS kdK p []) ∧ O (.raw (.ref p)) (w2.set w.length (DicS kdK p ((kvs.map fun kv => (.inr kv.1 : L2.Key)).zip svs)))) :
    EvS X CA (ThW R0) ρ w (.Dict ((kvs.zip js).map fun q => some (.Constant (.str q.1.1) q.2.1 q.2.2)) (kvs.map (·.2)) pos) O Ox := fun F L R H σ g i k Q Wx tk q qx => by
  have hlen : ((kvs.zip js).map fun q => some (Expr.Constant (.str q.1.1) q.2.1 q.2.2)).length = kvs.length := by rw [List.length_map, List.length_zip, hjs, Nat.min_self]
  refine toE (pe_disp (pps_of kvs js hjs) (by rw [List.all_map]; exact List.all_eq_true.mpr fun _ _ => rfl) (by rw [hlen, List.length_map]) (fun e => hne (List.length_eq_zero_iff.mp (by rw [← hlen, e]; rfl))) (by rw [hlen]; exact hl)) fun p hp => ?_
  have i1 : Sep F R0 (w ++ [DicS kdK p []]) (upd R p (.dK [])) := i.new (k.r.free hp) ⟨[], upd_same, .nil⟩
  refine sl_pairs (ρ := ρ) (Ox := Ox) tk kvs _ F L _ _ _ _ g i1 (k.newR hp) (h p) qx fun svs w2 vs F2 R2 H2 l2 o2 s2 i2 r2 k2 => ?_
  obtain ⟨h1, o⟩ := o2
  obtain ⟨M, hP, hMR, hU⟩ := Sep.upd i2 h1
  obtain ⟨kv0, e1, e2⟩ := hP
  cases e2
  have hpR := hMR _ _ e1
  have hkl : (kvs.map fun kv => (.inr kv.1 : L2.Key)).length = vs.length := by rw [List.length_map, l2]
  have hkeys : (((kvs.map fun kv => (.inr kv.1 : L2.Key)).zip vs).map (·.1)) = kvs.map fun kv => (.inr kv.1 : L2.Key) := by
    rw [← List.unzip_fst, List.unzip_zip_left (by rw [hkl]; exact Nat.le_refl _)]
  have hnd2 : (((kvs.map fun kv => (.inr kv.1 : L2.Key)).zip vs).map (·.1)).Nodup := by
    rw [hkeys]
    have : (kvs.map fun kv => (.inr kv.1 : L2.Key)) = (kvs.map (·.1)).map Sum.inr := by rw [List.map_map]; rfl
    rw [this]
    exact List.Pairwise.map _ (fun a b hab e => hab (Sum.inr.inj e)) hnd
  refine ⟨k2.r _ _ hpR, (kvs.map fun kv => (.inr kv.1 : L2.Key)).zip vs, ?_, ?_, ?_⟩
  · rw [List.zip_map_left, List.zip_map_left, List.map_map]
    rfl
  · rw [List.length_zip, hkl, Nat.min_self, l2]
    exact hl
  · have em : mergeK [] ((kvs.map fun kv => (.inr kv.1 : L2.Key)).zip vs) = (kvs.map fun kv => (.inr kv.1 : L2.Key)).zip vs := merge_new (kvs := []) hnd2
    rw [em]
    have i3 := hU F2 p (.dK ((kvs.map fun kv => (.inr kv.1 : L2.Key)).zip vs)) (DicS kdK p ((kvs.map fun kv => (.inr kv.1 : L2.Key)).zip svs)) (Same.refl _) (.inl (by rw [e1]; simp)) ⟨_, upd_same, rpk_zip (paired_noL r2) hkl⟩
    exact q (.raw (.ref p)) _ (.ref p) F2 _ _ o s2 i3 rfl rfl (k2.setR hpR)
end
end G
end

section
set_option Elab.async false
set_option linter.all false
set_option maxRecDepth 100000
set_option maxHeartbeats 8000000
/-! ### the laws' own: kinds, book, bag -/
namespace G
open PySem PySem.Spec PyProof.Rows L2 Sh
def lkD (k : Kd) (ts : List Str) : PyData := .tuple [shD k.m.enc, .int k.most, .bool k.turn, .int k.heavy, .list (ts.map PyData.str)]
def kndK (ks : Ks) (tg : Str → List Str) : List (L2.Key × Sv) := ks.map fun p => (.inr p.1, .d (lkD p.2 (tg p.1)))
abbrev KndT (kd : Addr) (ks : Ks) (tg : Str → List Str) : Thing := DicS kdK kd (kndK ks tg)
def names4 : List Str := ["ax", "bow", "coin", "gem"]
def tags2 : List Str := ["hand", "head"]
structure FourK (ks : Ks) (tg : Str → List Str) : Prop where
  nm : ks.map (·.1) = names4
  g : ∀ p ∈ ks, p.2.m.Good
  lim : ∀ p ∈ ks, 1 ≤ p.2.most ∧ p.2.most ≤ 9 ∧ 0 ≤ p.2.heavy ∧ p.2.heavy ≤ 19
  tags : ∀ p ∈ ks, (tg p.1).Sublist tags2
  coin : ∀ p ∈ ks, p.1 = ("coin" : Str) → p.2.m.enc = [("#" : Str)] ∧ p.2.most = 9
theorem names4_ok : ∀ z ∈ names4, PyData.strOk z = true := by decide +kernel
theorem names4_nd : names4.Nodup := by decide +kernel
theorem FourK.ok {ks : Ks} {tg : Str → List Str} (h : FourK ks tg) : KsOk ks where
  g := h.g
  lim := fun p hp => by
    obtain ⟨h1, h2, h3, h4⟩ := h.lim p hp
    omega
  nd := by rw [h.nm]; exact names4_nd
  len := by
    have := congrArg List.length h.nm
    rw [List.length_map] at this
    rw [this]
    decide
  ok := fun p hp => names4_ok _ (by rw [← h.nm]; exact List.mem_map.mpr ⟨p, hp, rfl⟩)
def spKinds (K : PySem.W.Frag) : Spc := fun svs w Q => ∃ (sa ta : Addr) (ns : List Int) (n : Nat) (w0 : List Thing), svs = [.raw (.ref sa), .raw (.ref ta)] ∧ w = ScrT K sa ns :: TownT ta n :: w0 ∧ n + 200 ≤ 1000000 ∧ ∀ kd ks tg n', FourK ks tg → n ≤ n' → n' ≤ n + 200 → Q (.ok (.raw (.ref kd))) (ScrT K sa ns :: TownT ta n' :: (w0 ++ [KndT kd ks tg]))
theorem kndK_app (ks : Ks) (tg : Str → List Str) (z : Str) (k : Kd) (ts : List Str) (h : z ∉ ks.map (·.1)) : kndK ks tg ++ [(.inr z, .d (lkD k ts))] = kndK (ks ++ [(z, k)]) fun x => if x = z then ts else tg x := by
  unfold kndK
  rw [List.map_append]
  congr 1
  · refine List.map_congr_left fun p hp => ?_
    show _ = (Sum.inr p.1, Sv.d (lkD p.2 (if p.1 = z then ts else tg p.1)))
    rw [if_neg (fun e : p.1 = z => h (by rw [← e]; exact List.mem_map.mpr ⟨p, hp, rfl⟩))]
  · simp
theorem kndK_get (ks : Ks) (tg : Str → List Str) (z : Str) : aget (kndK ks tg) (.inr z) = (aget ks z).map fun k => .d (lkD k (tg z)) := by
  induction ks with
  | nil => rfl
  | cons p ks ih =>
    unfold kndK at ih ⊢
    rw [List.map_cons, aget_cons, aget_cons, ih]
    by_cases h : p.1 = z
    · rw [if_pos (by rw [h]), if_pos h, h]
      rfl
    · rw [if_neg (fun e => h (Sum.inr.inj e)), if_neg h]
section
variable {P : Program} {w : World} {K : PySem.W.Frag} {mg : Str → Option Value} {base : Heap} {CA : Str → Addr}
abbrev ShapeF (P : Program) (w : World) (K : PySem.W.Frag) (mg : Str → Option Value) (base : Heap) (CA : Str → Addr) : Prop := FnF P w K mg base 4 "_law_shape" (lift CA (pmT K 20 preShape postShape))
def oneM : Mx := ⟨1, 1, fun _ _ => true⟩
theorem oneM_good : oneM.Good := ⟨by decide, by decide, by decide, by decide, ⟨0, by decide, rfl⟩, ⟨0, by decide, rfl⟩, ⟨0, by decide, rfl⟩, ⟨0, by decide, rfl⟩⟩
theorem oneM_enc : oneM.enc = [("#" : Str)] := by decide +kernel
end
end G
end

section
set_option Elab.async false
set_option linter.all false
set_option maxRecDepth 100000
set_option maxHeartbeats 8000000
/-! ### the laws' own: the book, the bag -/
namespace G
open PySem PySem.Spec PyProof.Rows L2 Sh
structure BookK (ks : Ks) (tg : Str → List Str) (B : Bok) : Prop where
  same : kndK B.rows tg = kndK ks tg
  four : FourK B.rows tg
  tags : ∀ p ∈ B.rows, ∀ x, x ∈ p.2.tags ↔ x ∈ tg p.1
def spLBook (CA : Str → Addr) : Spc := fun svs w Q => ∃ (kd : Addr) (i : Nat) (ks : Ks) (tg : Str → List Str), svs = [.raw (.ref kd)] ∧ w[i]? = some (KndT kd ks tg) ∧ FourK ks tg ∧ ∀ B, BookK ks tg B → Q (.ok (.raw (.ref B.b))) (w ++ [BookT (CA "Book") B])
theorem good4 : ∀ z ∈ names4, goodN z = true ∧ z.length ≤ 100 := by decide +kernel
theorem goodT : ∀ z ∈ tags2, goodN z = true ∧ z.length ≤ 100 := by decide +kernel
theorem addDue_ok {B : Bok} {z : Str} {rows : List Str} {most heavy : Int} {tags : List Str} (h1 : goodN z = true) (h2 : aget B.rows z = none) (h3 : B.rows.length ≠ 30) (h4 : goodS rows = true) (h5 : 1 ≤ most) (h6 : most ≤ 99) (h7 : 0 ≤ heavy) (h8 : heavy ≤ 999) (h9 : tags.all goodN = true) : addDue B z rows most heavy tags = none := by
  unfold addDue
  rw [h1, h2, decide_eq_false h3, h4, decide_eq_true h5, decide_eq_true h6, decide_eq_true h7, decide_eq_true h8, h9]
  rfl
section
variable {P : Program} {w : World} {K : PySem.W.Frag} {mg : Str → Option Value} {base : Heap} {CA : Str → Addr}
/-! the law's own bag -/
def modK (kd pd : Addr) (b : Bag) : List (L2.Key × Sv) := [(.inr "kinds", .raw (.ref kd)), (.inr "rows", .d (.int (b.rows : Int))), (.inr "columns", .d (.int (b.cols : Int))), (.inr "piles", .raw (.ref pd)), (.inr "last", .d (.int b.last))]
def pilK (b : Bag) : List (L2.Key × Sv) := b.piles.map fun q => (.inl q.1, .d (pileD q.2))
abbrev ModA (md kd pd : Addr) (b : Bag) : Thing := DicS kdK md (modK kd pd b)
abbrev ModB (pd : Addr) (b : Bag) : Thing := DicS kdK pd (pilK b)
def spLBag : Spc := fun svs w Q => ∃ (kd : Addr) (R C : Nat), svs = [.raw (.ref kd), .d (.int (R : Int)), .d (.int (C : Int))] ∧ ∀ md pd, Q (.ok (.raw (.ref md))) (w ++ [ModA md kd pd ⟨R, C, 0, []⟩, ModB pd ⟨R, C, 0, []⟩])
end
end G
end

section
set_option Elab.async false
set_option linter.all false
set_option maxRecDepth 100000
set_option maxHeartbeats 8000000
/-! ### the laws' own: taken, turns_of, under, fits, put -/
namespace G
open PySem PySem.Spec PyProof.Rows L2 Sh
structure ModV (w : List Thing) (md kd pd : Addr) (ks : Ks) (tg : Str → List Str) (b : Bag) : Prop where
  md : DicR kdK w md (modK kd pd b)
  pd : DicR kdK w pd (pilK b)
  kd : DicR kdK w kd (kndK ks tg)
  four : FourK ks tg
  ok : BagOk ks b
structure InMod (w : List Thing) (md kd pd : Addr) (ks : Ks) (tg : Str → List Str) (b : Bag) (i1 i2 i3 : Nat) : Prop where
  a : w[i1]? = some (ModA md kd pd b)
  p : w[i2]? = some (ModB pd b)
  k : w[i3]? = some (KndT kd ks tg)
  n12 : i1 ≠ i2
  n13 : i1 ≠ i3
  n23 : i2 ≠ i3
  four : FourK ks tg
  ok : BagOk ks b
theorem InMod.v {w : List Thing} {md kd pd : Addr} {ks : Ks} {tg : Str → List Str} {b : Bag} {i1 i2 i3 : Nat} (h : InMod w md kd pd ks tg b i1 i2 i3) : ModV w md kd pd ks tg b := ⟨(dicH_of i1 h.a).r, (dicH_of i2 h.p).r, (dicH_of i3 h.k).r, h.four, h.ok⟩
theorem InMod.set {w : List Thing} {md kd pd : Addr} {ks : Ks} {tg : Str → List Str} {b b' : Bag} {i1 i2 i3 : Nat} (h : InMod w md kd pd ks tg b i1 i2 i3) (ok : BagOk ks b') : InMod ((w.set i1 (ModA md kd pd b')).set i2 (ModB pd b')) md kd pd ks tg b' i1 i2 i3 :=
  ⟨by rw [List.getElem?_set_ne (Ne.symm h.n12)]; exact getS _ (List.getElem?_eq_some_iff.mp h.a).1, getS _ (by rw [List.length_set]; exact (List.getElem?_eq_some_iff.mp h.p).1), by rw [List.getElem?_set_ne h.n23, List.getElem?_set_ne h.n13]; exact h.k, h.n12, h.n13, h.n23, h.four, ok⟩
theorem eq_prI (a b : Cz) : PyData.eqv (prI a) (prI b) = true ↔ a = b := by
  unfold prI
  rw [show ([PyData.int a.1, .int a.2] : List PyData) = [a.1, a.2].map PyData.int from rfl, show ([PyData.int b.1, .int b.2] : List PyData) = [b.1, b.2].map PyData.int from rfl, Da.eq_tup (f := PyData.int) (fun x _ y _ => by rw [Da.eq_int, decide_eq_true_eq]), decide_eq_true_eq]
  simp only [List.cons.injEq, and_true]
  exact ⟨fun h => Prod.ext h.1 h.2, fun h => by rw [h]; exact ⟨rfl, rfl⟩⟩
theorem fit_cz (l : List Cz) : Da.Fit 2 (czD l) := Da.fit_list (Da.fit_map fun c _ => fit_prI c)
theorem eq_cz (a b : List Cz) : PyData.eqv (czD a) (czD b) = decide (a = b) := (Da.eq_list (f := prI) fun x _ y _ => eq_prI x y).trans (Da.dec_same _ _)
theorem in_cz (c : Cz) (l : List Cz) : ((l.map prI).any fun z => PyData.eqv z (prI c)) = decide (c ∈ l) := (Da.any_eq fun z _ => eq_prI z c).trans (Da.dec_same _ _)
theorem fit_ints (l : List Int) : Da.Fit 1 (.list (l.map PyData.int)) := Da.fit_list (Da.fit_map fun n _ => Da.fit_int _)
theorem eq_ints (a b : List Int) : PyData.eqv (.list (a.map PyData.int)) (.list (b.map PyData.int)) = decide (a = b) := (Da.eq_list (f := PyData.int) fun x _ y _ => by rw [Da.eq_int, decide_eq_true_eq]).trans (Da.dec_same _ _)
/-! reading rules -/
section
variable {X : Cx} {R0 : Hp} {ρ : Rho} {w : List Thing} {md kd pd : Addr} {ks : Ks} {tg : Str → List Str} {b : Bag} {o ze ne : Expr} {p1 p2 p3 p4 : Pos} {j1 j2 : Nat} {z : Str} {n : Int} {k : Kd} {p : Pil}
theorem vm {f : Str} {sv : Sv} (v : ModV w md kd pd ks tg b) (hu : X.A.units + 1 < cLine) (ho : EvV X ((ThW R0).om w) ρ o (.raw (.ref md))) (hf : aget (modK kd pd b) (.inr f) = some sv) : EvV X ((ThW R0).om w) ρ (.Subscript o (.Constant (.str f) j1 p1) p2) sv := vdget (D := kdK) (k := .inr f) hu ho ev_str v.md hf
theorem ev_knd (v : ModV w md kd pd ks tg b) (hu : X.A.units + 1 < cLine) (ho : EvV X ((ThW R0).om w) ρ o (.raw (.ref md))) (hz : Ev X ((ThW R0).om w) ρ ze (.str z)) (hk : aget ks z = some k) (hs : PlainIx ze := by exact fun _ _ => rfl) : Ev X ((ThW R0).om w) ρ (.Subscript (.Subscript o (.Constant (.str "kinds") j1 p1) p2) ze p3) (lkD k (tg z)) :=
  EvV.dat (vdget (D := kdK) (k := .inr z) hu (vm v hu ho rfl) hz v.kd (by rw [kndK_get, hk]; rfl) hs)
theorem pilK_get (b : Bag) (n : Int) : aget (pilK b) (.inl n) = (aget b.piles n).map fun p => .d (pileD p) := aget_map (κ := Int) (κ' := L2.Key) Sum.inl (fun p : Pil => Sv.d (pileD p)) (fun _ _ h => Sum.inl.inj h) n b.piles
theorem ev_mpile (v : ModV w md kd pd ks tg b) (hu : X.A.units + 1 < cLine) (ho : EvV X ((ThW R0).om w) ρ o (.raw (.ref md))) (hn : Ev X ((ThW R0).om w) ρ ne (.int n)) (hp : aget b.piles n = some p) (hs : PlainIx ne := by exact fun _ _ => rfl) : Ev X ((ThW R0).om w) ρ (.Subscript (.Subscript o (.Constant (.str "piles") j1 p1) p2) ne p3) (pileD p) :=
  EvV.dat (vdget (D := kdK) (k := .inl n) hu (vm v hu ho rfl) hn v.pd (by rw [pilK_get, hp]; rfl) hs)
theorem sortI_mem {l : List Int} {n : Int} : n ∈ sortI l ↔ n ∈ l := (List.mergeSort_perm l _).mem_iff
theorem sortI_len (l : List Int) : (sortI l).length = l.length := (List.mergeSort_perm l _).length_eq
theorem ev_mkeys {apos cpos pos p : Pos} (v : ModV w md kd pd ks tg b) (hc : X.calm = true) (hu : X.A.units + 100 < cLine) (hm : X.mg "sorted" = none) (ho : EvV X ((ThW R0).om w) ρ o (.raw (.ref md)))
    (hg : Gl X "sorted" := by rfl) (hbase : attributeBase (.Subscript o (.Constant (.str "piles") j1 p1) p2) "keys" X.env (eval (.Subscript o (.Constant (.str "piles") j1 p1) p2) X.env) = eval (.Subscript o (.Constant (.str "piles") j1 p1) p2) X.env := by rfl) (hline : (apos.endLine == cpos.line) = true := by rfl)
    (hs : starEach [.Call (.Attribute (.Subscript o (.Constant (.str "piles") j1 p1) p2) "keys" apos) [] [] cpos] X.env = (false, eval (.Call (.Attribute (.Subscript o (.Constant (.str "piles") j1 p1) p2) "keys" apos) [] [] cpos) X.env) :: starEach [] X.env := by rfl) (hpl : (backTo pos (starEach [] X.env)).any (·.1) = false := by rfl) :
    Ev X ((ThW R0).om w) ρ (.Call (.Name "sorted" p) [.Call (.Attribute (.Subscript o (.Constant (.str "piles") j1 p1) p2) "keys" apos) [] [] cpos] [] pos) (.list ((sortI (b.piles.map (·.1))).map PyData.int)) :=
  ev_sortK (b.piles.map (·.1)) (fun n => .inl n) PyData.int hc hu hm (vm v (by omega) ho rfl) v.pd (by unfold pilK; rw [List.map_map, List.map_map]; rfl) (fun _ => rfl) (.inr ⟨id, fun _ => rfl⟩) hg hbase hline hs hpl
end
/-! what the law's own defs say -/
def overl (ks : Ks) (b : Bag) (l : List Cz) (n : Int) : Bool := decide (((cellsP ks (pileOf b n)).filter fun c => decide (c ∈ l)) ≠ [])
def underL (ks : Ks) (b : Bag) (l : List Cz) : List Int := ((l.filter fun c => !inside b c).map fun _ => (0 : Int)) ++ (sortI (b.piles.map (·.1))).filter (overl ks b l)
def takenR : List Sv → List Thing → ResS → Prop := fun svs w r => ∃ (md kd pd : Addr) (ks : Ks) (tg : Str → List Str) (b : Bag) (z : Str) (k : Kd) (t : Nat) (ro co : Int), svs = [.raw (.ref md), .d (.str z), .d (.int (t : Int)), .d (.int ro), .d (.int co)] ∧ ModV w md kd pd ks tg b ∧ aget ks z = some k ∧ r = .ok (.d (czD (cellsZ k.m t ro co)))
def turnsOfR : List Sv → List Thing → ResS → Prop := fun svs w r => ∃ (md kd pd : Addr) (ks : Ks) (tg : Str → List Str) (b : Bag) (z : Str) (k : Kd), svs = [.raw (.ref md), .d (.str z)] ∧ ModV w md kd pd ks tg b ∧ aget ks z = some k ∧ r = .ok (.d (natsD (turnsK k)))
def underR : List Sv → List Thing → ResS → Prop := fun svs w r => ∃ (md kd pd : Addr) (ks : Ks) (tg : Str → List Str) (b : Bag) (l : List Cz), svs = [.raw (.ref md), .d (czD l)] ∧ ModV w md kd pd ks tg b ∧ l.length ≤ 1000 ∧ r = .ok (.d (.list ((underL ks b l).map PyData.int)))
def lfitsR : List Sv → List Thing → ResS → Prop := fun svs w r => ∃ (md kd pd : Addr) (ks : Ks) (tg : Str → List Str) (b : Bag) (z : Str) (k : Kd) (t : Nat) (ro co : Int) (but : Option Int), svs = [.raw (.ref md), .d (.str z), .d (.int (t : Int)), .d (.int ro), .d (.int co), .d (optD but)] ∧ ModV w md kd pd ks tg b ∧ aget ks z = some k ∧ (∀ n, but = some n → n ≠ 0) ∧ r = .ok (.d (.bool (fitsK ks b k t ro co but)))
def spLPut : Spc := fun svs w Q => ∃ (md kd pd : Addr) (ks : Ks) (tg : Str → List Str) (b : Bag) (i1 i2 i3 : Nat) (p : Pil), svs = [.raw (.ref md), .d (.str p.kind), .d (.int p.many), .d (.int (p.turn : Int)), .d (.int p.row), .d (.int p.col)] ∧ InMod w md kd pd ks tg b i1 i2 i3 ∧ Q (.ok (.d (.int (b.last + 1)))) ((w.set i1 (ModA md kd pd (b.put p))).set i2 (ModB pd (b.put p)))
theorem under_free {ks : Ks} {b : Bag} (ok : BagOk ks b) (l : List Cz) (but : Option Int) (hb : ∀ n, but = some n → n ≠ 0) : (((underL ks b l).filter fun n => decide (some n ≠ but)) = []) ↔ isFree ks b l but = true := by
  unfold underL isFree
  rw [List.filter_append, List.append_eq_nil_iff, List.filter_eq_nil_iff, List.filter_eq_nil_iff, List.all_eq_true]
  have h0 : some (0 : Int) ≠ but := fun e => hb 0 e.symm rfl
  constructor
  · rintro ⟨h1, h2⟩ c hc
    unfold cellOk
    have hin : inside b c = true := by
      cases e : inside b c with
      | true => rfl
      | false => exact absurd (decide_eq_true h0) (h1 0 (List.mem_map.mpr ⟨c, List.mem_filter.mpr ⟨hc, by rw [e]; rfl⟩, rfl⟩))
    rw [hin, Bool.true_and]
    cases e : ownB ks b c with
    | none => rfl
    | some n =>
      obtain ⟨p, hp, hcp⟩ := mem_gridL.mp (ownB_some e)
      have hn := h2 n (List.mem_filter.mpr ⟨sortI_mem.mpr (List.mem_map.mpr ⟨_, hp, rfl⟩), by
        unfold overl
        rw [pileOf_mem ok.num hp]
        exact decide_eq_true fun z => by
          have : c ∈ (cellsP ks p).filter fun c => decide (c ∈ l) := List.mem_filter.mpr ⟨hcp, decide_eq_true hc⟩
          have z : (cellsP ks p).filter (fun c => decide (c ∈ l)) = [] := z
          rw [z] at this
          cases this⟩)
      simp only [decide_eq_true_eq, Classical.not_not, ne_eq] at hn
      simp only [okOwn, decide_eq_true_eq]
      exact hn.symm
  · intro h
    refine ⟨fun n hn => ?_, fun n hn => ?_⟩
    · obtain ⟨c, hc, rfl⟩ := List.mem_map.mp hn
      obtain ⟨hc, hi⟩ := List.mem_filter.mp hc
      have := h c hc
      unfold cellOk at this
      rw [Bool.and_eq_true] at this
      rw [this.1] at hi
      cases hi
    · obtain ⟨hn, ho⟩ := List.mem_filter.mp hn
      obtain ⟨q, hq, rfl⟩ := List.mem_map.mp (sortI_mem.mp hn)
      unfold overl at ho
      rw [pileOf_mem ok.num hq] at ho
      have ho := of_decide_eq_true ho
      obtain ⟨c, hc⟩ := List.exists_mem_of_ne_nil _ ho
      obtain ⟨hc, hl⟩ := List.mem_filter.mp hc
      have hcl := of_decide_eq_true hl
      have hown : ownB ks b c = some q.1 := (ownB_iff ok.dis).mpr (mem_gridL.mpr ⟨q.2, hq, hc⟩)
      have := h c hcl
      unfold cellOk at this
      rw [Bool.and_eq_true, hown] at this
      simp only [okOwn, decide_eq_true_eq] at this
      simp [this.2]
section
variable {P : Program} {w : World} {K : PySem.W.Frag} {mg : Str → Option Value} {base : Heap} {CA : Str → Addr}
abbrev TakenF (P : Program) (w : World) (K : PySem.W.Frag) (mg : Str → Option Value) (base : Heap) (CA : Str → Addr) : Prop := FnF P w K mg base 2 "_law_taken" (lift CA (pmW (rdo takenR)))
abbrev TurnsOfF (P : Program) (w : World) (K : PySem.W.Frag) (mg : Str → Option Value) (base : Heap) (CA : Str → Addr) : Prop := FnF P w K mg base 3 "_law_turns_of" (lift CA (pmW (rdo turnsOfR)))
abbrev UnderF (P : Program) (w : World) (K : PySem.W.Frag) (mg : Str → Option Value) (base : Heap) (CA : Str → Addr) : Prop := FnF P w K mg base 3 "_law_under" (lift CA (pmW (rdo underR)))
end
end G
end

section
set_option Elab.async false
set_option linter.all false
set_option maxRecDepth 100000
set_option maxHeartbeats 8000000
/-! ### the laws' own: fits, put -/
namespace G
open PySem PySem.Spec PyProof.Rows L2 Sh
theorem eq_intO (n : Int) (o : Option Int) : PyData.eqv (.int n) (optD o) = decide (some n = o) := by
  cases o with
  | none => rfl
  | some m =>
    show PyData.eqv (.int n) (.int m) = _
    rw [Da.eq_int]
    by_cases h : n = m
    · simp [h]
    · simp [h]
section
variable {P : Program} {w : World} {K : PySem.W.Frag} {mg : Str → Option Value} {base : Heap} {CA : Str → Addr}
abbrev LFitsF (P : Program) (w : World) (K : PySem.W.Frag) (mg : Str → Option Value) (base : Heap) (CA : Str → Addr) : Prop := FnF P w K mg base 4 "_law_fits" (lift CA (pmW (rdo lfitsR)))
abbrev LPutF (P : Program) (w : World) (K : PySem.W.Frag) (mg : Str → Option Value) (base : Heap) (CA : Str → Addr) : Prop := FnF P w K mg base 1 "_law_put" (lift CA (pmW spLPut))
theorem mod_last (kd pd : Addr) (b : Bag) (m : Int) : aput (modK kd pd b) (.inr "last") (.d (.int m)) = modK kd pd { b with last := m } := by
  rfl
end
end G
end

section
set_option Elab.async false
set_option linter.all false
set_option maxRecDepth 100000
set_option maxHeartbeats 4000000
/-! ### held = None; try: .. except BagError as e: held = e; and what follows -/
namespace G
open PySem PySem.Spec PyProof.Rows L2
section
variable {X : Cx} {Ω : Om} {ρ : Rho} {p pos : Pos}
theorem ev_excN (i : Nat) {x : Str} {C : Addr} {n : Nat} {p2 : Pos} (h : ρ[i]? = some (some (.exc C)) := by rfl) (hN : X.N[i]? = some x := by rfl) (hv : Vis X.env.scope x := by first | exact Or.inl rfl | exact Or.inr (Or.inl rfl) | exact Or.inr (Or.inr rfl)) (hd : (x == ("__debug__" : Str)) = false := by decide)
    (hcd : (x == ("__classdict__" : Str)) = false := by decide) : Ev X Ω ρ (.Compare (.Name x p) [.Is] [.Constant .none n p2] pos) (.bool false) := fun F L R H σ g om k Q q => by
  obtain ⟨v', h1, a, e1, h2⟩ := g.at_ i _ h
  subst e1
  refine toE (pe_cmpR op_isN (pe_var hN hv hd hcd) pe_non (nomark _)) ⟨_, h1, rfl, ?_⟩
  exact q.here om k (.bl false)
end
section
variable {X : Cx} {CA : Str → Addr} {R0 : Hp} {ρ : Rho} {w : List Thing} {OS : Out (List Thing)} {body rest : List Stmt} {p1 p2 p3 p4 p5 p6 p7 p8 p9 p10 p11 p12 : Pos} {n1 : Nat} {h n : Str} {k : Nat}
theorem set3 (ρ : Rho) {i j : Nat} (x y : Option Sv) (hne : i ≠ j) : ((ρ.set j x).set i x).set j y = (ρ.set i x).set j y := by
  rw [List.set_comm _ _ (Ne.symm hne), List.set_set]
theorem sb_held (tx : TxtX X.K X.mg CA) (ih ie : Nat) (hN : X.N.Nodup)
    (hb : ∀ (pn : List (Addr × Obj)) (xe : Value → Shared → Prop), PassesOwn (model X.prog X.w) X.A X.env xe → SB (X.tr pn xe) CA (ThW R0) (ρ.set ih (some (.d .none))) w body
      { nx := fun ρ' w' => SB X CA (ThW R0) ρ' w' rest OS, rt := OS.rt, ex := fun c ρ' w' => ρ'.length = X.N.length ∧ c ∈ errs ∧ SB X CA (ThW R0) ((ρ'.set ih (some (.exc (CA c)))).set ie none) w' rest OS, bk := fun _ _ => False, ct := fun _ _ => False })
    (hih : X.N[ih]? = some h := by rfl) (hie : X.N[ie]? = some n := by rfl)
    (l1 : X.env.scope.names.lookup h = some .local := by rfl) (l3 : X.env.kindOf n = some .local := by rfl) (l4 : X.env.scope.names.lookup n = some .local := by rfl)
    (d5 : (n == ("__debug__" : Str)) = false := by decide) (d6 : (n == ("__classdict__" : Str)) = false := by decide)
    (hs : X.stack = X.env :: X.outer := by rfl) (hf : X.env.frame = some X.env.locals := by rfl) (hex : X.ex = [] := by rfl) (hg : Gl X "BagError" := by rfl)
    (ne2 : ih ≠ ie := by decide)
    (l5 : ∀ (a : Addr) (pn2 : List (Addr × Obj)), (X.suite a pn2).env.scope.names.lookup h = some .local := by intro _ _; rfl) (l6 : ∀ (a : Addr) (pn2 : List (Addr × Obj)), (X.suite a pn2).env.scope.names.lookup n = some .local := by intro _ _; rfl)
    (sw1 : swapsWith (.Constant .none n1 p1) (some (.Name h p2)) p3.line X.env = pure false := by rfl)
    (sw3 : ∀ (a : Addr) (pn2 : List (Addr × Obj)), swapsWith (.Name n p7) (some (.Name h p8)) p9.line (X.suite a pn2).env = pure false := by intro _ _; rfl) :
    SB X CA (ThW R0) ρ w (.Assign [.Name h p2] (.Constant .none n1 p1) p3 :: .Try body [.ExceptHandler (some (.Name "BagError" p10)) (some n) [.Assign [.Name h p8] (.Name n p7) p9] p11] [] [] p12 :: rest) OS := by
  obtain ⟨B, hB, hX⟩ := tx.bag
  refine sb_cons (s_asg ih hN (Ev.s ev_non ?_) hih (.inl l1) sw1 (.inr l1))
  refine sb_cons (s_try ie hN hB (fun pn xe hp => (hb pn xe hp).imp fun F D Wx m => ⟨?_, ?_, ?_, ?_, ?_⟩) hie l3 hg (by decide) hs hf hex)
  · exact m.nx
  · exact m.rt
  · rintro c ρ' w' F' L' R' H' σ' ⟨hlen, e1, h3⟩ s' i' g' k'
    refine m.ex c ρ' w' F' L' R' H' σ' ⟨hX c e1, fun a pn2 => ?_⟩ s' i' g' k'
    have be : ie < ρ'.length := by
      rw [hlen]
      exact (List.getElem?_eq_some_iff.mp hie).1
    have g1 : (ρ'.set ie (some (.exc (CA c))))[ie]? = some (some (.exc (CA c))) := getS _ be
    refine sb_one (s_asg ih hN (es_exc ie (C := CA c) ?_ g1 hie (.inl (l6 a pn2)) d5 d6) hih (.inl (l5 a pn2)) (sw3 a pn2) (.inr (l5 a pn2)))
    show SB X CA (ThW R0) (((ρ'.set ie (some (.exc (CA c)))).set ih (some (.exc (CA c)))).set ie none) w' rest OS
    rw [set3 ρ' _ _ ne2]
    exact h3
  · exact fun _ _ _ _ _ _ _ o => o.elim
  · exact fun _ _ _ _ _ _ _ o => o.elim
end
end G
end

section
set_option Elab.async false
set_option linter.all false
set_option maxRecDepth 100000
set_option maxHeartbeats 8000000
/-! ### the laws' own: first, numbers, picture, count -/
namespace G
open PySem PySem.Spec PyProof.Rows L2 Sh
/-! plain: first cells -/
theorem firstP_mem {ks : Ks} {p : Pil} {k : Kd} (hk : aget ks p.kind = some k) (g : k.m.Good) : firstP ks p ∈ cellsP ks p := by
  unfold firstP
  rw [cellsP_of hk]
  have := cellsZ_ne g p.turn p.row p.col
  cases e : cellsZ k.m p.turn p.row p.col with
  | nil => exact absurd e this
  | cons c l => exact List.mem_cons_self
theorem fstN_of {ks : Ks} {b : Bag} {n : Int} (h : n ∈ b.piles.map (·.1)) : fstN ks b n = firstP ks (pileOf b n) := by
  unfold fstN
  rw [pile_there h]
theorem fstN_mem {ks : Ks} {b : Bag} (ok : BagOk ks b) {n : Int} (h : n ∈ b.piles.map (·.1)) : (fstN ks b n, n) ∈ gridL ks b.piles := by
  rw [fstN_of h]
  have hp := aget_mem (pile_there h)
  obtain ⟨k, hk, g, _⟩ := ok.pil _ hp
  exact mem_gridL.mpr ⟨_, hp, firstP_mem hk g⟩
theorem fst_inj {ks : Ks} {b : Bag} (ok : BagOk ks b) {n m : Int} (hn : n ∈ b.piles.map (·.1)) (hm : m ∈ b.piles.map (·.1)) (e : fstN ks b n = fstN ks b m) : n = m := by
  have h1 := fstN_mem ok hn
  rw [e] at h1
  exact key_once ok.dis h1 (fstN_mem ok hm)
theorem lt_of_le {a b : Cz} (h : leI a b = true) (hne : a ≠ b) : ltI a b := by
  unfold leI at h
  simp only [decide_eq_true_eq] at h
  rcases h with h | ⟨h, h'⟩
  · exact .inl h
  · refine .inr ⟨h, ?_⟩
    have : a.2 ≠ b.2 := fun e => hne (Prod.ext h e)
    omega
theorem ltI_irr (a : Cz) : ¬ ltI a a := fun h => by rcases h with h | ⟨_, h⟩ <;> omega
theorem ltI_asym (a b : Cz) (h : ltI a b) : ¬ ltI b a := fun h' => by rcases h with h | ⟨e, h⟩ <;> rcases h' with h' | ⟨e', h'⟩ <;> omega
theorem nums_nd {ks : Ks} {b : Bag} (ok : BagOk ks b) : (numsB ks b).Nodup := (List.mergeSort_perm _ _).nodup_iff.mpr ok.num
theorem nums_rise {ks : Ks} {b : Bag} (ok : BagOk ks b) : (numsB ks b).Pairwise fun n m => ltI (fstN ks b n) (fstN ks b m) := by
  have hs := List.pairwise_mergeSort (le := fun n m => leI (fstN ks b n) (fstN ks b m)) (fun a b c => leI_trans _ _ _) (fun a b => leI_total _ _) (b.piles.map (·.1))
  have hb : (numsB ks b).Pairwise fun n m => leI (fstN ks b n) (fstN ks b m) = true ∧ n ≠ m := hs.and (nums_nd ok)
  refine List.Pairwise.imp_of_mem (fun {n m} hn hm h => ?_) hb
  exact lt_of_le h.1 fun e => h.2 (fst_inj ok (numsB_mem.mp hn) (numsB_mem.mp hm) e)
theorem nums_uniq {ks : Ks} {b : Bag} (ok : BagOk ks b) {l : List Int} (hm : ∀ n, n ∈ l ↔ n ∈ b.piles.map (·.1)) (h : l.Pairwise fun n m => ltI (fstN ks b n) (fstN ks b m)) : l = numsB ks b :=
  Mx.rise_unique (fun n m => ltI (fstN ks b n) (fstN ks b m)) (fun n => ltI_irr _) (fun n m => ltI_asym _ _) h (nums_rise ok) fun n => (hm n).trans numsB_mem.symm
theorem cellsZ_rise (m : Mx) (t : Nat) (r c : Int) : (cellsZ m t r c).Pairwise ltI := by
  unfold cellsZ
  rw [List.pairwise_map]
  refine (Mx.cells_sorted _).imp fun {a b} h => ?_
  rcases h with h | ⟨e, h⟩
  · exact .inl (by show r + (a.1 : Int) < r + (b.1 : Int); omega)
  · exact .inr ⟨by show r + (a.1 : Int) = r + (b.1 : Int); omega, by show c + (a.2 : Int) < c + (b.2 : Int); omega⟩
theorem minD_hd {d : PyData} : ∀ {ds : List PyData}, (∀ y ∈ ds, PySem.W.dataLt y d = false) → PySem.W.minD d ds = d
  | [], _ => rfl
  | y :: ds, h => by
    have h1 := h y List.mem_cons_self
    have h2 := minD_hd (ds := ds) fun z hz => h z (List.mem_cons_of_mem _ hz)
    unfold PySem.W.minD at h2 ⊢
    rw [List.foldl_cons, h1]
    exact h2
/-! sorted pairs of a first cell and a number -/
def spotD (q : Cz × Int) : PyData := .tuple [prI q.1, .int q.2]
theorem fit_spot (q : Cz × Int) : Da.Fit 2 (spotD q) := Da.fit_tup (n := 1) (Da.fit_cons (fit_prI _) (Da.fit_cons (Da.fit_int _) Da.fit_nil))
theorem lt_prI (a b : Cz) : PySem.W.dataLt (prI a) (prI b) = decide (a.1 < b.1 ∨ (a.1 = b.1 ∧ a.2 < b.2)) := PySem.W.dataLt_ii _ _ _ _
theorem spot_le {p q : Cz × Int} (h : PySem.W.dataLe false spotD p q = true) (hne : p.1 ≠ q.1) : ltI p.1 q.1 := by
  rw [PySem.W.dataLe_eq] at h
  have h : (!PySem.W.dataLt (spotD q) (spotD p)) = true := h
  unfold spotD at h
  rw [PySem.W.dataLt_pair (by simp [prI, PySem.W.alike, PySem.W.alikeAll]) (by simp [PySem.W.alike]), if_neg (by rw [eq_prI]; exact fun e => hne e.symm), lt_prI] at h
  simp only [Bool.not_eq_true', decide_eq_false_iff_not] at h
  by_cases h1 : p.1.1 < q.1.1
  · exact .inl h1
  · have e1 : p.1.1 = q.1.1 := by omega
    refine .inr ⟨e1, ?_⟩
    have : p.1.2 ≠ q.1.2 := fun e => hne (Prod.ext e1 e)
    omega
theorem spots_nums {ks : Ks} {b : Bag} (ok : BagOk ks b) : ((b.piles.map fun q => (fstN ks b q.1, q.1)).mergeSort (PySem.W.dataLe false spotD)).map (·.2) = numsB ks b := by
  have hp := List.mergeSort_perm (b.piles.map fun q => (fstN ks b q.1, q.1)) (PySem.W.dataLe false spotD)
  have tot := PySem.W.sortLe_total (listOrd itemOrd) false fun q : Cz × Int => PySem.W.keyToks (spotD q)
  have hs := List.pairwise_mergeSort (le := PySem.W.dataLe false spotD) tot.trans (fun a b => by
    rw [Bool.or_eq_true]
    exact tot.total a b) (b.piles.map fun q => (fstN ks b q.1, q.1))
  have hnd : (((b.piles.map fun q => (fstN ks b q.1, q.1)).mergeSort (PySem.W.dataLe false spotD)).map (·.2)).Nodup := by
    refine (hp.map (·.2)).nodup_iff.mpr ?_
    rw [List.map_map]
    exact ok.num
  have hmem : ∀ q, q ∈ (b.piles.map fun q => (fstN ks b q.1, q.1)).mergeSort (PySem.W.dataLe false spotD) → q.2 ∈ b.piles.map (·.1) ∧ q.1 = fstN ks b q.2 := fun q hq => by
    obtain ⟨z, hz, rfl⟩ := List.mem_map.mp (hp.mem_iff.mp hq)
    exact ⟨List.mem_map.mpr ⟨z, hz, rfl⟩, rfl⟩
  refine nums_uniq ok (fun n => ?_) ?_
  · rw [(hp.map (·.2)).mem_iff, List.map_map]
    rfl
  · rw [List.pairwise_map]
    have hb := hs.and (List.pairwise_map.mp hnd)
    refine List.Pairwise.imp_of_mem (fun {p q} h1 h2 h => ?_) hb
    obtain ⟨a1, a2⟩ := hmem p h1
    obtain ⟨b1, b2⟩ := hmem q h2
    rw [← a2, ← b2]
    refine spot_le h.1 fun e => h.2 ?_
    rw [a2, b2] at e
    exact fst_inj ok a1 b1 e
/-! the defs -/
theorem InMod.lock {w : List Thing} {md kd pd : Addr} {ks : Ks} {tg : Str → List Str} {b : Bag} {i1 i2 i3 : Nat} (h : InMod w md kd pd ks tg b i1 i2 i3) (od : Obj) (kvs : List (L2.Key × V)) : ModV (w.set i2 (LckS pd (pilK b) od kvs)) md kd pd ks tg b :=
  ⟨(dicH_of i1 (by rw [List.getElem?_set_ne (Ne.symm h.n12)]; exact h.a)).r, dicR_L (dicL_S _ _) i2 (getS _ (List.getElem?_eq_some_iff.mp h.p).1), (dicH_of i3 (by rw [List.getElem?_set_ne h.n23]; exact h.k)).r, h.four, h.ok⟩
def lfirstR : List Sv → List Thing → ResS → Prop := fun svs w r => ∃ (md kd pd : Addr) (ks : Ks) (tg : Str → List Str) (b : Bag) (n : Int) (p : Pil), svs = [.raw (.ref md), .d (.int n)] ∧ ModV w md kd pd ks tg b ∧ aget b.piles n = some p ∧ r = .ok (.d (prI (firstP ks p)))
def lnumsR : List Sv → List Thing → ResS → Prop := fun svs w r => ∃ (md kd pd : Addr) (ks : Ks) (tg : Str → List Str) (b : Bag) (i1 i2 i3 : Nat), svs = [.raw (.ref md)] ∧ InMod w md kd pd ks tg b i1 i2 i3 ∧ r = .ok (.d (.list ((numsB ks b).map PyData.int)))
def lpictR : List Sv → List Thing → ResS → Prop := fun svs w r => ∃ (md kd pd : Addr) (ks : Ks) (tg : Str → List Str) (b : Bag) (i1 i2 i3 : Nat), svs = [.raw (.ref md)] ∧ InMod w md kd pd ks tg b i1 i2 i3 ∧ r = .ok (.d (pictD ks b))
def lcountR : List Sv → List Thing → ResS → Prop := fun svs w r => ∃ (md kd pd : Addr) (ks : Ks) (tg : Str → List Str) (b : Bag) (i1 i2 i3 : Nat) (z : Str), svs = [.raw (.ref md), .d (.str z)] ∧ InMod w md kd pd ks tg b i1 i2 i3 ∧ r = .ok (.d (.int (countB b z)))
theorem pilK_mem {b : Bag} (nd : (b.piles.map (·.1)).Nodup) {q : L2.Key × Sv} (h : q ∈ pilK b) : ∃ n p, q = (.inl n, .d (pileD p)) ∧ (n, p) ∈ b.piles ∧ pileOf b (keyN q.1) = p ∧ aget b.piles n = some p := by
  obtain ⟨z, hz, rfl⟩ := List.mem_map.mp h
  exact ⟨z.1, z.2, rfl, hz, pileOf_mem nd hz, aget_of_mem nd hz⟩
theorem pilK_filter {b : Bag} (nd : (b.piles.map (·.1)).Nodup) (p : Pil → Bool) (g : Pil → PyData) :
    ((pilK b).filter fun q => p (pileOf b (keyN q.1))).map (fun q => g (pileOf b (keyN q.1))) = (b.piles.filter fun q => p q.2).map fun q => g q.2 := by
  unfold pilK
  rw [List.filter_map, List.map_map]
  have : ∀ q ∈ b.piles, pileOf b q.1 = q.2 := fun q hq => pileOf_mem nd hq
  have e1 : b.piles.filter ((fun q : L2.Key × Sv => p (pileOf b (keyN q.1))) ∘ fun q : Int × Pil => ((.inl q.1 : L2.Key), Sv.d (pileD q.2))) = b.piles.filter fun q => p q.2 := by
    refine List.filter_congr fun q hq => ?_
    show p (pileOf b q.1) = _
    rw [this q hq]
  rw [e1]
  refine List.map_congr_left fun q hq => ?_
  show g (pileOf b q.1) = _
  rw [this q (List.mem_filter.mp hq).1]
section
variable {P : Program} {w : World} {K : PySem.W.Frag} {mg : Str → Option Value} {base : Heap} {CA : Str → Addr}
abbrev LFirstF (P : Program) (w : World) (K : PySem.W.Frag) (mg : Str → Option Value) (base : Heap) (CA : Str → Addr) : Prop := FnF P w K mg base 3 "_law_first" (lift CA (pmW (rdo lfirstR)))
abbrev LNumsF (P : Program) (w : World) (K : PySem.W.Frag) (mg : Str → Option Value) (base : Heap) (CA : Str → Addr) : Prop := FnF P w K mg base 4 "_law_numbers" (lift CA (pmW (rdo lnumsR)))
abbrev LPictF (P : Program) (w : World) (K : PySem.W.Frag) (mg : Str → Option Value) (base : Heap) (CA : Str → Addr) : Prop := FnF P w K mg base 5 "_law_picture" (lift CA (pmW (rdo lpictR)))
abbrev LCountF (P : Program) (w : World) (K : PySem.W.Frag) (mg : Str → Option Value) (base : Heap) (CA : Str → Addr) : Prop := FnF P w K mg base 1 "_law_count" (lift CA (pmW (rdo lcountR)))
end
end G
end

section
set_option Elab.async false
set_option linter.all false
set_option maxRecDepth 100000
set_option maxHeartbeats 4000000
/-! ### tuples of any values, and taking them apart -/
namespace G
open PySem PySem.Spec PyProof.Rows L2
abbrev PairS (F L : Hp) (vs : List V) (svs : List Sv) : Prop := Paired (fun v sv => RpS F L v sv ∧ isOwn sv = false) vs svs
theorem pairS_mono {F F' L : Hp} (s : Same F F') : ∀ {vs : List V} {svs : List Sv}, PairS F L vs svs → PairS F' L vs svs
  | _, _, .nil => .nil
  | _, _, .cons h r => .cons ⟨h.1.mono s, h.2⟩ (pairS_mono s r)
theorem pairS_any {F L L' : Hp} : ∀ {vs : List V} {svs : List Sv}, PairS F L vs svs → PairS F L' vs svs
  | _, _, .nil => .nil
  | _, _, .cons h r => .cons ⟨RpS.anyL h.2 h.1, h.2⟩ (pairS_any r)
theorem pairS_len {F L : Hp} : ∀ {vs : List V} {svs : List Sv}, PairS F L vs svs → vs.length = svs.length
  | _, _, .nil => rfl
  | _, _, .cons h r => by rw [List.length_cons, List.length_cons, pairS_len r]
def TupS (p : Addr) (svs : List Sv) : Thing := ⟨fun F _ => ∃ vs, F p = some (.tup vs) ∧ PairS F no vs svs, fun s _ h => by
  obtain ⟨vs, h1, h2⟩ := h
  exact ⟨vs, s _ _ h1, pairS_mono s h2⟩⟩
theorem Sep.factS {F R0 R : Hp} {w : List Thing} {t : Thing} (h : Sep F R0 w R) (ht : t.P F no) : Sep F R0 (w ++ [t]) R := by
  obtain ⟨c, h1, h2⟩ := h
  refine ⟨c, h1, fun i u e => ?_⟩
  by_cases hi : i < w.length
  · rw [List.getElem?_append_left hi] at e
    exact h2 i u e
  · rw [List.getElem?_append_right (by omega)] at e
    have : u = t := by
      have := List.mem_of_getElem? e
      simpa using this
    subst this
    exact u.mono (Same.refl _) (fun a o e => by cases e) ht
section
variable {X : Cx} {CA : Str → Addr} {R0 : Hp} {ρ ρ' ρ'' : Rho} {w : List Thing} {es tgs : List Expr} {e tg : Expr} {pos : Pos} {O : Sv → List Thing → Prop} {Ox : Str → List Thing → Prop} {OS : Out (List Thing)} {vs : List Nat} {sv : Sv} {svs : List Sv}
theorem es_tupS {n : Nat} (h : EvSA X CA (ThW R0) ρ w es (fun svs w1 => svs.length ≤ sizeLine ∧ ∀ p, O (.raw (.ref p)) (w1 ++ [TupS p svs])) Ox) : EvS X CA (ThW R0) ρ w (.Tuple es n pos) O Ox := fun F L R H σ g i k Q Wx tk q qx =>
  toE (pe_tup (pa_w es)) (h F L R H σ g i k _ Wx tk (fun svs w1 vs F1 R1 H1 o1 s1 i1 r1 k1 => by
    obtain ⟨hl, o⟩ := o1
    refine ⟨by rw [pairS_len r1]; exact hl, fun p hp => ?_⟩
    have s2 : Same F1 (upd F1 p (.tup vs)) := same_new (k1.f.free hp)
    have i1 : Sep F1 R0 w1 R1 := i1
    exact q (.raw (.ref p)) _ _ _ R1 _ (o p) (s1.trans s2) (Sep.factS (Sep.mono s2 i1) ⟨vs, upd_same, pairS_any (pairS_mono s2 r1)⟩) rfl rfl (k1.newF hp)) qx)
def TgsS (X : Cx) (vs : List Nat) (tgs : List Expr) (svs : List Sv) (ρ ρ' : Rho) : Prop := ∀ F L R H σ ws, Sg F L σ ρ → Ok F L R H → PairS F L ws svs → ∀ Q : L2.St → Hp → Prop, (∀ σ', Sg F L σ' ρ' → wipe σ' vs = wipe σ vs → Q σ' H) →
  ∀ (pins : List (Addr × Obj)) (s : Shared) (us : List Value), Inv X pins σ H s → Vals ws us → wpAny (model X.prog X.w) X.A (assignInOrder ((assignEach tgs X.env).map (·.2)) us) (fun _ s' => ∃ σ' H', Inv X pins σ' H' s' ∧ Q σ' H') X.xe s
theorem tgsS_nil : TgsS X vs [] [] ρ ρ := fun F L R H σ ws g k r Q q pins s us I rv => by
  cases r
  exact pgs_nil.run pins s σ H [] us Q I rv ⟨rfl, q σ g rfl⟩
theorem tgsS_cons (h1 : TgS X vs tg sv ρ ρ') (h2 : TgsS X vs tgs svs ρ' ρ'') (hs : (assignEach (tg :: tgs) X.env).map (·.2) = assign tg X.env :: (assignEach tgs X.env).map (·.2) := by rfl) : TgsS X vs (tg :: tgs) (sv :: svs) ρ ρ'' := fun F L R H σ ws g k r Q q pins s us I rv => by
  cases r with
  | cons r1 r2 =>
    cases rv with
    | cons v1 v2 =>
      rw [hs]
      refine PyProof.Rows.assignInOrder_cons (thn ((h1 F L R H σ _ g k r1.1 r1.2 (fun σ' H' => H' = H ∧ Sg F L σ' ρ' ∧ wipe σ' vs = wipe σ vs) (fun σ' g' w => ⟨rfl, g', w⟩)).run pins s _ I v1) fun _ s1 ⟨σ1, H1, I1, e1, g1, w1⟩ => ?_)
      subst e1
      exact h2 F L R _ σ1 _ g1 k r2 Q (fun σ' g' w => q σ' g' (w.trans w1)) pins s1 _ I1 v2
/-- a, b = f(..), where that gives a tuple of any values; the tuple is let go -/
theorem s_asgTupS {n : Nat} {kk : Nat} {p2 : Pos} (hc : X.calm = true) (h : EvS X CA (ThW R0) ρ w e (fun sv w' => ∃ (p : Addr) (svs : List Sv) (ρ' : Rho) (w0 : List Thing), sv = .raw (.ref p) ∧ w' = w0 ++ [TupS p svs] ∧ svs.length = n ∧ TgsS X vs tgs svs ρ ρ' ∧ OS.nx ρ' w0) (fun c w' => OS.ex c ρ w'))
    (hn : (assignEach tgs X.env).length = n := by rfl) (hst : (assignEach tgs X.env).findIdx? (·.1) = none := by rfl)
    (hs : swapsWithSole [.Tuple tgs kk p2] e pos.line X.env = pure false := by rfl) (hw : swappedStores [.Tuple tgs kk p2] e X.env = pure none := by rfl)
    (h1 : (assignEach [.Tuple tgs kk p2] X.env).map (·.2) = [assign (.Tuple tgs kk p2) X.env] := by rfl) : S1 X CA (ThW R0) ρ w (.Assign [.Tuple tgs kk p2] e pos) OS := fun F L R H σ g ii k D Wx tk m =>
  toS (ps_asg (pe_w e) (pg_w (.Tuple tgs kk p2)) hs hw h1) (h F L R H σ g ii k _ Wx tk (fun sv w' v F' R' H' o s' i' r' n' k' => by
    obtain ⟨p, svs, ρ', w0, e1, e2, hl, ht, o⟩ := o
    subst e1 e2
    have i' : Sep F' R0 (w0 ++ [TupS p svs]) R' := i'
    obtain ⟨M, ⟨vs', hF, hP⟩, _⟩ := i'.get (i := w0.length) (t := TupS p svs) (by simp)
    have ev : v = .ref p := r'
    subst ev
    have gp : PGs X tgs (fun ws σ' H'' Q' => Sg F' L σ' ρ ∧ σ' = σ ∧ H'' = H' ∧ PairS F' L ws svs ∧ ∀ σ2, Sg F' L σ2 ρ' → wipe σ2 vs = wipe σ vs → Q' σ2 H') := ⟨fun pins s σ' H'' ws us Q' I rv hw => by
      obtain ⟨g', e1, e2, r', q'⟩ := hw
      subst e1 e2
      exact ht F' L R' _ _ ws g' k' r' Q' q' pins s us I rv⟩
    exact toG (pg_tup (k := kk) hc gp hn hst) ⟨_, _, rfl, SqT.of (k'.f _ _ hF), by rw [pairS_len hP]; exact hl, g.mono s', rfl, rfl, pairS_any hP, fun σ2 g2 _ => m.nx ρ' w0 F' L R' H' σ2 o s' i'.drop g2 k'⟩) (fun c w' F' R' H' o s' i' k' => m.ex c ρ w' F' L R' H' σ o s' i' (g.mono s') k'))
end
end G
end

section
set_option Elab.async false
set_option linter.all false
set_option maxRecDepth 100000
set_option maxHeartbeats 8000000
/-! ### plain, for the laws behind k21 (E21a, E21b have the same) -/
namespace G
open PySem PySem.Spec PyProof.Rows L2 Sh
theorem own_none {ks : Ks} {t : Bag} {c : Cz} : ownB ks t c = none ↔ ∀ p ∈ t.piles.map (·.2), c ∉ cellsP ks p := by
  rw [ownB_none]
  constructor
  · intro h p hp hc
    obtain ⟨q, hq, rfl⟩ := List.mem_map.mp hp
    exact h q.1 (mem_gridL.mpr ⟨q.2, hq, hc⟩)
  · intro h n hm
    obtain ⟨p, hp, hc⟩ := mem_gridL.mp hm
    exact h p (List.mem_map.mpr ⟨_, hp, rfl⟩) hc
theorem okOwn_none (o : Option Int) : okOwn o none = o.isNone := by
  cases o <;> rfl
theorem inside_like {b t : Bag} (h1 : t.rows = b.rows) (h2 : t.cols = b.cols) (c : Cz) : inside t c = inside b c := by
  unfold inside
  rw [h1, h2]
theorem fits_like {ks : Ks} {b t : Bag} (h1 : t.rows = b.rows) (h2 : t.cols = b.cols) (h3 : ∀ c, ownB ks t c = none ↔ ownB ks b c = none) (k : Kd) (n : Nat) (r c : Int) : fitsK ks t k n r c none = fitsK ks b k n r c none := by
  have : cellOk ks t none = cellOk ks b none := by
    funext d
    unfold cellOk
    rw [okOwn_none, okOwn_none, inside_like h1 h2]
    congr 1
    have := h3 d
    cases e1 : ownB ks t d with
    | none => rw [this.mp e1]
    | some n =>
      cases e2 : ownB ks b d with
      | none =>
        rw [this.mpr e2] at e1
        cases e1
      | some m => rfl
  unfold fitsK isFree
  rw [this]
theorem fits_of {ks : Ks} {t : Bag} {k : Kd} {n : Nat} {r c : Int} (h1 : n ∈ turnsK k) (h2 : ∀ d ∈ cellsZ k.m n r c, inside t d = true ∧ ownB ks t d = none) : fitsK ks t k n r c none = true := by
  unfold fitsK isFree
  rw [decide_eq_true h1, Bool.true_and, List.all_eq_true]
  intro d hd
  unfold cellOk
  rw [(h2 d hd).1, (h2 d hd).2]
  rfl
theorem InMod.app {w v : List Thing} {md kd pd : Addr} {ks : Ks} {tg : Str → List Str} {b : Bag} {i1 i2 i3 : Nat} (h : InMod w md kd pd ks tg b i1 i2 i3) : InMod (w ++ v) md kd pd ks tg b i1 i2 i3 :=
  ⟨by rw [List.getElem?_append_left (List.getElem?_eq_some_iff.mp h.a).1]; exact h.a, by rw [List.getElem?_append_left (List.getElem?_eq_some_iff.mp h.p).1]; exact h.p, by rw [List.getElem?_append_left (List.getElem?_eq_some_iff.mp h.k).1]; exact h.k, h.n12, h.n13, h.n23, h.four, h.ok⟩
theorem bagOk_nil {ks : Ks} {R C : Nat} (h1 : 1 ≤ R) (h2 : R ≤ 10) (h3 : 1 ≤ C) (h4 : C ≤ 10) : BagOk ks ⟨R, C, 0, []⟩ := ⟨h1, h2, h3, h4, List.nodup_nil, (fun q hq => by cases hq), Int.le_refl _, (fun q hq => by cases hq), List.nodup_nil⟩
theorem under_one {ks : Ks} {b : Bag} (ok : BagOk ks b) (c : Cz) : (underL ks b [c]).head? = if inside b c then ownB ks b c else some 0 := by
  unfold underL
  cases hi : inside b c with
  | false =>
    have : ([c].filter fun c => !inside b c) = [c] := by simp [hi]
    rw [this]
    rfl
  | true =>
    have : ([c].filter fun c => !inside b c) = [] := by simp [hi]
    rw [this, List.map_nil, List.nil_append, if_pos rfl]
    have hov : ∀ n, n ∈ (sortI (b.piles.map (·.1))).filter (overl ks b [c]) ↔ ownB ks b c = some n := by
      intro n
      rw [List.mem_filter, sortI_mem, ownB_iff ok.dis, mem_gridL]
      constructor
      · rintro ⟨hn, ho⟩
        refine ⟨_, aget_mem (pile_there hn), ?_⟩
        unfold overl at ho
        obtain ⟨d, hd⟩ := List.exists_mem_of_ne_nil _ (of_decide_eq_true ho)
        obtain ⟨hd, hdc⟩ := List.mem_filter.mp hd
        have : d = c := by simpa using hdc
        rw [← this]
        exact hd
      · rintro ⟨p, hp, hc⟩
        refine ⟨List.mem_map.mpr ⟨_, hp, rfl⟩, ?_⟩
        unfold overl
        rw [pileOf_mem ok.num hp]
        refine decide_eq_true fun z => ?_
        have : c ∈ (cellsP ks p).filter fun d => decide (d ∈ [c]) := List.mem_filter.mpr ⟨hc, by simp⟩
        have z : (cellsP ks p).filter (fun d => decide (d ∈ [c])) = [] := z
        rw [z] at this
        cases this
    generalize (sortI (b.piles.map (·.1))).filter (overl ks b [c]) = l at hov ⊢
    cases l with
    | nil =>
      cases e : ownB ks b c with
      | none => rfl
      | some n => cases (hov n).mpr e
    | cons m l => exact ((hov m).mp List.mem_cons_self).symm
theorem eq_opt0 (o : Option Int) : PyData.eqv (optD o) (.int 0) = decide (o = some 0) := by
  cases o with
  | none => rfl
  | some m =>
    show PyData.eqv (.int m) (.int 0) = _
    rw [Da.eq_int]
    by_cases h : m = 0
    · simp [h]
    · simp [h]
theorem fit_refused {z : Str} (h : PyData.strOk z = true) : Da.Fit 1 (refusedD z) := Da.fit_tup (n := 0) (Da.fit_cons (Da.fit_str (by decide +kernel)) (Da.fit_cons (Da.fit_str h) Da.fit_nil))
theorem fit_opt (o : Option Int) : Da.Fit 1 (optD o) := by
  cases o with
  | none => exact Da.fit_none
  | some n => exact Da.fit_int _
theorem four_get {ks : Ks} {tg : Str → List Str} (h : FourK ks tg) {z : Str} (hz : z ∈ names4) : ∃ k, aget ks z = some k := by
  have := aget_key (ks := ks) (z := z) (by rw [h.nm]; exact hz)
  exact Option.isSome_iff_exists.mp this
theorem four_no {ks : Ks} {tg : Str → List Str} (h : FourK ks tg) {z : Str} (hz : z ∉ names4) : aget ks z = none := by
  rw [aget_none, h.nm]
  exact hz
abbrev MBagF (P : Program) (w : World) (K : PySem.W.Frag) (mg : Str → Option Value) (base : Heap) (CA : Str → Addr) : Prop := FnN P w K mg base 1 (CA "Bag") "Bag" (lift CA (pmW (spBag CA)))
end G
end

section
set_option Elab.async false
set_option linter.all false
set_option maxRecDepth 100000
set_option maxHeartbeats 8000000
/-! ### the laws' own: filled -/
namespace G
open PySem PySem.Spec PyProof.Rows L2 Sh
/-- piles numbered in turn -/
structure SeqB (b : Bag) : Prop where
  la : b.last = (b.piles.length : Int)
  ks : b.piles.map (·.1) = (List.range b.piles.length).map fun i : Nat => (i : Int) + 1
theorem SeqB.put {b : Bag} (h : SeqB b) (p : Pil) : SeqB (b.put p) := by
  refine ⟨?_, ?_⟩
  · show b.last + 1 = ((b.piles ++ [_]).length : Int)
    have := h.la
    rw [List.length_append, List.length_singleton]
    omega
  · show (b.piles ++ [(b.last + 1, p)]).map (·.1) = (List.range (b.piles ++ [(b.last + 1, p)]).length).map _
    rw [List.length_append, List.length_singleton, List.range_succ, List.map_append, List.map_append, h.ks, h.la]
    rfl
/-- a bag and the law's own, behind others -/
abbrev WF (K : PySem.W.Frag) (CA : Str → Addr) (sa ta kd a md pd : Addr) (ns : List Int) (B : Bok) (w0 : List Thing) (n : Nat) (b : Bag) : List Thing := ScrT K sa ns :: TownT ta n :: (w0 ++ [bagAt CA a B b, ModA md kd pd b, ModB pd b])
theorem at_mid {α : Type} (w0 l : List α) (k : Nat) : (w0 ++ l)[w0.length + k]? = l[k]? := by
  rw [List.getElem?_append_right (Nat.le_add_right _ _), Nat.add_sub_cancel_left]
theorem set_mid {α : Type} (w0 l : List α) (k : Nat) (u : α) : (w0 ++ l).set (w0.length + k) u = w0 ++ l.set k u := by
  rw [List.set_append_right _ _ (Nat.le_add_right _ _), Nat.add_sub_cancel_left]
theorem at_left {α : Type} {w0 l : List α} {i : Nat} {t : α} (h : w0[i]? = some t) : (w0 ++ l)[i]? = some t := by
  rw [List.getElem?_append_left (List.getElem?_eq_some_iff.mp h).1]
  exact h
section
variable {K : PySem.W.Frag} {CA : Str → Addr} {sa ta kd a md pd : Addr} {ns : List Int} {B : Bok} {w0 : List Thing} {n : Nat} {b : Bag} {tg : Str → List Str} {ik ib : Nat}
theorem inF (hk : w0[ik]? = some (KndT kd B.rows tg)) (hb : w0[ib]? = some (BookT (CA "Book") B)) (h4 : FourK B.rows tg) (ok : BagOk B.rows b) :
    InBag CA (WF K CA sa ta kd a md pd ns B w0 n b) a B b (w0.length + 2) (ib + 2) ∧ InMod (WF K CA sa ta kd a md pd ns B w0 n b) md kd pd B.rows tg b (w0.length + 3) (w0.length + 4) (ik + 2) := by
  have hkl := (List.getElem?_eq_some_iff.mp hk).1
  have hbl := (List.getElem?_eq_some_iff.mp hb).1
  refine ⟨⟨at_mid w0 _ 0, at_left hb, by omega, ok, h4.ok⟩, ⟨at_mid w0 _ 1, at_mid w0 _ 2, at_left hk, by omega, by omega, by omega, h4, ok⟩⟩
theorem setF1 (b' : Bag) : ((WF K CA sa ta kd a md pd ns B w0 n b).set (w0.length + 3) (ModA md kd pd b')).set (w0.length + 4) (ModB pd b') = ScrT K sa ns :: TownT ta n :: (w0 ++ [bagAt CA a B b, ModA md kd pd b', ModB pd b']) := by
  show ScrT K sa ns :: TownT ta n :: ((w0 ++ [bagAt CA a B b, ModA md kd pd b, ModB pd b]).set (w0.length + 1) (ModA md kd pd b')).set (w0.length + 2) (ModB pd b') = _
  rw [set_mid]
  show ScrT K sa ns :: TownT ta n :: (w0 ++ [bagAt CA a B b, ModA md kd pd b', ModB pd b]).set (w0.length + 2) (ModB pd b') = _
  rw [set_mid]
  rfl
theorem setF2 {mb : Bag} (b' : Bag) : (ScrT K sa ns :: TownT ta n :: (w0 ++ [bagAt CA a B b, ModA md kd pd mb, ModB pd mb])).set (w0.length + 2) (bagAt CA a B b') = ScrT K sa ns :: TownT ta n :: (w0 ++ [bagAt CA a B b', ModA md kd pd mb, ModB pd mb]) := by
  show ScrT K sa ns :: TownT ta n :: (w0 ++ [bagAt CA a B b, ModA md kd pd mb, ModB pd mb]).set (w0.length + 0) (bagAt CA a B b') = _
  rw [set_mid]
  rfl
end
def spFilled (K : PySem.W.Frag) (CA : Str → Addr) : Spc := fun svs w Q => ∃ (sa ta kd : Addr) (ns : List Int) (n : Nat) (w0 : List Thing) (B : Bok) (tg : Str → List Str) (ik ib M : Nat),
  svs = [.raw (.ref sa), .raw (.ref ta), .raw (.ref kd), .raw (.ref B.b), .d (.int (M : Int))] ∧ w = ScrT K sa ns :: TownT ta n :: w0 ∧ w0[ik]? = some (KndT kd B.rows tg) ∧ w0[ib]? = some (BookT (CA "Book") B) ∧ FourK B.rows tg ∧ 1 ≤ M ∧ M ≤ 10 ∧ n + 60 ≤ 1000000 ∧
  ∀ (p a md pd : Addr) (b : Bag) (n' : Nat), BagOk B.rows b → BagPos b → b.rows ≤ M → b.cols ≤ M → b.piles.length ≤ 8 → SeqB b → n ≤ n' → n' ≤ n + 60 →
    Q (.ok (.raw (.ref p))) (ScrT K sa ns :: TownT ta n' :: (w0 ++ [bagAt CA a B b, ModA md kd pd b, ModB pd b] ++ [TupS p [.raw (.ref a), .raw (.ref md)]]))
section
variable {P : Program} {w : World} {K : PySem.W.Frag} {mg : Str → Option Value} {base : Heap} {CA : Str → Addr}
abbrev FilledF (P : Program) (w : World) (K : PySem.W.Frag) (mg : Str → Option Value) (base : Heap) (CA : Str → Addr) : Prop := FnF P w K mg base 7 "_law_filled" (lift CA (pmW (spFilled K CA)))
end
end G
end

section
set_option Elab.async false
set_option linter.all false
set_option maxRecDepth 100000
set_option maxHeartbeats 4000000
/-! ### own lists: x = sorted(d.keys()), e in x, max(x) -/
namespace G
open PySem PySem.Spec PyProof.Rows L2
section
variable {X : Cx} {Ω : Om} {ρ : Rho} {a : Expr} {pos p : Pos} {d : PyData} {ds : List PyData}
/-- in an own list -/
theorem et_inO (i : Nat) {x : Str} (u : X.A.units + 65 < cLine) (ha : Ev X Ω ρ a d) (sa : SeqAt.shaped d = true) (sb : SeqAt.shaped (.list ds) = true) (h : ρ[i]? = some (some (.own ds)) := by rfl) (hN : X.N[i]? = some x := by rfl) (hv : Vis X.env.scope x := by first | exact Or.inl rfl | exact Or.inr (Or.inl rfl) | exact Or.inr (Or.inr rfl))
    (hd : (x == ("__debug__" : Str)) = false := by decide) (hcd : (x == ("__classdict__" : Str)) = false := by decide) : EvT X Ω ρ (.Compare a [.In] [.Name x p] pos) (ds.any fun z => PyData.eqv z d) := fun F L R H σ g om k Q q => by
  refine toT (pt_cmpR (op_inD u) (pe_w a) (pe_var hN hv hd hcd) rfl) (ha F L R H σ g om k _ fun y F1 R1 H1 s1 o1 k1 r1 => ?_)
  obtain ⟨v, h1, p', vs, e1, h2, h3⟩ := g.at_ i _ h
  subst e1
  exact ⟨_, h1, d, ds, r1.dp k1.f, .lst (SqL.of (k1.l _ _ h2)) ((h3.mono s1).dp k1.f), sa, sb, _, rfl, q F1 R1 H1 s1 o1 k1⟩
theorem ev_maxO (i : Nat) {x : Str} {px : Pos} {ns : List Int} {z : Int} (hc : X.calm = true) (hm : X.mg "max" = none) (hz : z ∈ ns) (hl : ∀ y ∈ ns, y ≤ z) (h : ρ[i]? = some (some (.own (ns.map PyData.int)))) (hN : X.N[i]? = some x := by rfl) (hv : Vis X.env.scope x := by first | exact Or.inl rfl | exact Or.inr (Or.inl rfl) | exact Or.inr (Or.inr rfl)) (hd : (x == ("__debug__" : Str)) = false := by decide)
    (hcd : (x == ("__classdict__" : Str)) = false := by decide) (hg : Gl X "max" := by rfl) (he : starEach [.Name x px] X.env = (false, eval (.Name x px) X.env) :: starEach [] X.env := by rfl) (hpl : (backTo pos (starEach [] X.env)).any (·.1) = false := by rfl) : Ev X Ω ρ (.Call (.Name "max" p) [.Name x px] [] pos) (.int z) := fun F L R H σ g om k Q q => by
  obtain ⟨v, h1, p', vs, e1, h2, h3⟩ := g.at_ i _ h
  subst e1
  rw [h3.ints] at h2
  refine toE (pe_callB (cr_max hc) hg hm (by decide +kernel) (pa_cons (pe_var hN hv hd hcd) pa_nil he) (by decide) (by decide) he hpl) ⟨_, h1, _, ns, rfl, SqL.of (k.l _ _ h2), List.length_pos_of_mem hz, fun m hm hle => ?_⟩
  have e : m = z := Int.le_antisymm (hl m hm) (hle z hz)
  rw [e]
  exact q.here om k (.int _)
end
section
variable {X : Cx} {CA : Str → Addr} {R0 : Hp} {ρ : Rho} {w : List Thing} {a : Expr} {pos pos2 p apos cpos px : Pos} {q : Addr} {kss : List (L2.Key × Sv)} {OS : Out (List Thing)}
/-- x = sorted(d.keys()): an own list -/
theorem s_asgSortK (i : Nat) {x : Str} {α : Type} (l : List α) (f : α → L2.Key) (g : α → PyData) (hN : X.N.Nodup) (hc : X.calm = true) (hu : X.A.units + 100 < cLine) (hm : X.mg "sorted" = none) (ha : EvV X ((ThW R0).om w) ρ a (.raw (.ref q))) (hd : DicR kdK w q kss) (hk : kss.map (·.1) = l.map f) (h : ∀ x, keyD (f x) = g x) (hg2 : (∃ q : α → Str, ∀ x, g x = .str (q x)) ∨ ∃ q : α → Int, ∀ x, g x = .int (q x))
    (o : OS.nx (ρ.set i (some (.own ((l.mergeSort (PySem.W.dataLe false g)).map g)))) w) (hi : X.N[i]? = some x := by rfl) (hx : Loc X.env.scope x := by first | exact Or.inl rfl | exact Or.inr rfl)
    (hsw : swapsWith (.Call (.Name "sorted" p) [.Call (.Attribute a "keys" apos) [] [] cpos] [] pos) (some (.Name x px)) pos2.line X.env = pure false := by rfl) (hf : X.fn x = true ∨ X.env.scope.names.lookup x = some .local := by first | exact .inl rfl | exact .inr rfl)
    (hg : Gl X "sorted" := by rfl) (hbase : attributeBase a "keys" X.env (eval a X.env) = eval a X.env := by rfl) (hline : (apos.endLine == cpos.line) = true := by rfl)
    (hs : starEach [.Call (.Attribute a "keys" apos) [] [] cpos] X.env = (false, eval (.Call (.Attribute a "keys" apos) [] [] cpos) X.env) :: starEach [] X.env := by rfl) (hpl : (backTo pos (starEach [] X.env)).any (·.1) = false := by rfl) :
    S1 X CA (ThW R0) ρ w (.Assign [.Name x px] (.Call (.Name "sorted" p) [.Call (.Attribute a "keys" apos) [] [] cpos] [] pos) pos2) OS := fun F L R H σ g' om kk D Wx tk m =>
  toS (ps_set hN hi hx (pe_callB (cr_sortKeys hc hu) hg hm (by decide +kernel) (pa_cons (pe_keysV (pe_w a) hbase hline) pa_nil hs) (by decide) (by decide) hs hpl) hsw hf) (ha F L R H σ g' om kk _ fun v F1 R1 H1 s1 o1 k1 r1 => by
    cases r1
    obtain ⟨kvs, h1, h2⟩ := hd F1 R0 R1 H1 o1 k1.f k1.r
    have ek : kvs.map (·.1) = l.map f := h2.keys.trans hk
    obtain ⟨al, so⟩ := alikeK f g h hg2 l
    have em : ((kvs.map (·.1)).mergeSort (PySem.W.dataLe false keyD)).map keyD = (l.mergeSort (PySem.W.dataLe false g)).map g := by
      have e1 : (l.mergeSort (PySem.W.dataLe false g)).map f = (l.map f).mergeSort (PySem.W.dataLe false keyD) := List.map_mergeSort fun x _ y _ => by
        have eg : g = fun x => keyD (f x) := funext fun x => (h x).symm
        subst eg
        rfl
      rw [ek, ← e1, List.map_map]
      exact List.map_congr_left fun x _ => h x
    refine ⟨q, kvs, rfl, h1, fun p hp => ⟨p, q, kvs, rfl, upd_same, rd_same (same_new hp) h1, by rw [ek]; exact al, by rw [ek]; exact so, fun p2 hp2 => ?_⟩⟩
    have k2 := k1.newF (o := KeysO p q) hp
    have s2 : Same F1 (upd F1 p (KeysO p q)) := same_new (k1.f.free hp)
    refine m.nx _ w _ _ R1 _ _ o (s1.trans s2) (Sep.mono s2 o1) ((g'.mono (s1.trans s2)).setOwn i (k2.l.free hp2) ?_) (k2.newL hp2)
    rw [← em]
    exact rpA_key _)
end
end G
end

section
set_option Elab.async false
set_option linter.all false
set_option maxRecDepth 100000
set_option maxHeartbeats 8000000
/-! ### filling: first_place, look_many -/
namespace G
open PySem PySem.Spec PyProof.Rows L2 Sh
abbrev Plc := Nat × Nat × Nat
def tryT (ks : Ks) (b : Bag) (k : Kd) (r c t : Nat) : Option Plc := if fitsK ks b k t (r : Int) (c : Int) none then some (t, r, c) else none
def tryC (ks : Ks) (b : Bag) (k : Kd) (r c : Nat) : Option Plc := (turnsK k).findSome? (tryT ks b k r c)
def tryR (ks : Ks) (b : Bag) (k : Kd) (r : Nat) : Option Plc := (List.range b.cols).findSome? (tryC ks b k r)
def firstAt (ks : Ks) (b : Bag) (k : Kd) : Option Plc := (List.range b.rows).findSome? (tryR ks b k)
def placeD : Option Plc → PyData
  | none => .none
  | some p => .tuple [.int (p.1 : Int), .int (p.2.1 : Int), .int (p.2.2 : Int)]
theorem fs_cons {α β : Type} (p : α → Option β) (x : α) (l : List α) : (x :: l).findSome? p = (p x).or (l.findSome? p) := by
  rw [List.findSome?_cons]
  cases p x <;> rfl
theorem fs_drop {α β : Type} {p : α → Option β} {l : List α} {i : Nat} {x : α} (h : l[i]? = some x) : (l.drop i).findSome? p = (p x).or ((l.drop (i + 1)).findSome? p) := by
  obtain ⟨hi, e⟩ := List.getElem?_eq_some_iff.mp h
  rw [List.drop_eq_getElem_cons hi, e, fs_cons]
theorem fs_end {α β : Type} (p : α → Option β) (l : List α) : (l.drop l.length).findSome? p = none := by
  rw [List.drop_length]
  rfl
theorem first_some {ks : Ks} {b : Bag} {k : Kd} {x : Plc} (h : firstAt ks b k = some x) : fitsK ks b k x.1 (x.2.1 : Int) (x.2.2 : Int) none = true := by
  unfold firstAt at h
  obtain ⟨r, _, h⟩ := List.exists_of_findSome?_eq_some h
  unfold tryR at h
  obtain ⟨c, _, h⟩ := List.exists_of_findSome?_eq_some h
  unfold tryC at h
  obtain ⟨t, _, h⟩ := List.exists_of_findSome?_eq_some h
  unfold tryT at h
  by_cases hf : fitsK ks b k t (r : Int) (c : Int) none = true
  · rw [if_pos hf] at h
    cases h
    exact hf
  · rw [if_neg hf] at h
    cases h
theorem first_none {ks : Ks} {b : Bag} {k : Kd} (h : firstAt ks b k = none) {r c t : Nat} (hr : r < b.rows) (hc : c < b.cols) (ht : t ∈ turnsK k) : fitsK ks b k t (r : Int) (c : Int) none = false := by
  unfold firstAt at h
  have h := List.findSome?_eq_none_iff.mp h r (List.mem_range.mpr hr)
  unfold tryR at h
  have h := List.findSome?_eq_none_iff.mp h c (List.mem_range.mpr hc)
  unfold tryC at h
  have h := List.findSome?_eq_none_iff.mp h t ht
  unfold tryT at h
  by_cases hf : fitsK ks b k t (r : Int) (c : Int) none = true
  · rw [if_pos hf] at h
    cases h
  · simpa using hf
def firstPR (K : PySem.W.Frag) (CA : Str → Addr) : List Sv → List Thing → ResS → Prop := fun svs w r => ∃ (a : Addr) (B : Bok) (b : Bag) (x : BagX) (z : Str) (k : Kd), svs = [.raw (.ref a), .d (.str z)] ∧ BagV K CA w a B b x ∧ aget B.rows z = some k ∧ r = .ok (.d (placeD (firstAt B.rows b k)))
def lookR : List Sv → List Thing → ResS → Prop := fun svs w r => ∃ m : Int, svs = [.d (.int m)] ∧ r = if m < 0 then .ex "BadNumber" else .ok (.d .none)
section
variable {P : Program} {w : World} {K : PySem.W.Frag} {mg : Str → Option Value} {base : Heap} {CA : Str → Addr}
abbrev FirstPF (P : Program) (w : World) (K : PySem.W.Frag) (mg : Str → Option Value) (base : Heap) (CA : Str → Addr) : Prop := FnF P w K mg base 6 "first_place" (lift CA (pmW (rdo (firstPR K CA))))
theorem ok_first_place (t : TxtS K mg CA) (tg : TxtG K mg CA) (fu : BTurnsF P w K mg base CA) (ff : FitsF P w K mg base CA) (D : DefT K mg "first_place" T.s_first_place) : FirstPF P w K mg base CA := by
  refine mkW D T.sc_first_place ?_ (fun f cdv A outer s H E R0 svs th Q hr h => ?_) fun _ _ _ _ _ _ us hl => match us, hl with | [_, _], _ => rfl
  · rintro svs th Q ⟨_, ⟨_, _, _, _, _, _, rfl, _⟩, _⟩
    rfl
  obtain ⟨r, ⟨a, B, b, x, z, k, rfl, v, hk, rfl⟩, hq⟩ := h
  have nd := T.sc_first_place.nd
  obtain ⟨i, hi⟩ := v.bk
  have hr10 := v.ok.r10
  have hc10 := v.ok.c10
  generalize hX : firstAt B.rows b k = Xo at hq
  refine sb_cons (s_for (List.range b.rows) (fun i : Nat => PyData.int (i : Int)) (vs := [2]) (passes_of rfl) rfl (ei_rangeN (n := b.rows) t.range (EvV.dat (vb v (vv 0) rfl)) (by omega))
    (fun i ρ' w' => w' = th ∧ ((List.range b.rows).drop i).findSome? (tryR B.rows b k) = Xo ∧ ∃ o2 o3 o4, ρ' = [some (.raw (.ref a)), some (.d (.str z)), o2, o3, o4]) ⟨rfl, hX, _, _, _, rfl⟩ ?_ ?_)
  · rintro x1 ro ρ' w' hx1 ⟨rfl, e1, o2, o3, o4, rfl⟩
    rw [fs_drop hx1] at e1
    generalize ((List.range b.rows).drop (x1 + 1)).findSome? (tryR B.rows b k) = restR at e1 ⊢
    refine ⟨_, tg_name 2 nd (by decide), ?_⟩
    refine sb_one (s_for (List.range b.cols) (fun i : Nat => PyData.int (i : Int)) (vs := [3]) (passes_of rfl) rfl (ei_rangeN (n := b.cols) t.range (EvV.dat (vb v (vv 0) rfl)) (by omega))
      (fun i ρ' w'' => w'' = w' ∧ (((List.range b.cols).drop i).findSome? (tryC B.rows b k ro)).or restR = Xo ∧ ∃ o3 o4, ρ' = [some (.raw (.ref a)), some (.d (.str z)), some (.d (.int (ro : Int))), o3, o4]) ⟨rfl, e1, _, _, rfl⟩ ?_ ?_)
    · rintro x2 co ρ' w'' hx2 ⟨rfl, e2, o3, o4, rfl⟩
      rw [fs_drop hx2, Option.or_assoc] at e2
      generalize (((List.range b.cols).drop (x2 + 1)).findSome? (tryC B.rows b k ro)).or restR = restC at e2 ⊢
      refine ⟨_, tg_name 3 nd (by decide), ?_⟩
      refine sb_one (s_for (turnsK k) (fun i : Nat => PyData.int (i : Int)) (vs := [4]) (passes_of rfl) rfl (ei_list (EvV.dat (vmeth (sv := .d (natsD (turnsK k))) fu (hr.mono (by decide)) tg.b.c (vb v (vv 0) rfl) (book_is i hi) (va_one (vv 1)) ⟨i, B, z, rfl, hi, v.good.g, by rw [hk]; rfl⟩)))
        (fun i ρ' w''' => w''' = w'' ∧ (((turnsK k).drop i).findSome? (tryT B.rows b k ro co)).or restC = Xo ∧ ∃ o4, ρ' = [some (.raw (.ref a)), some (.d (.str z)), some (.d (.int (ro : Int))), some (.d (.int (co : Int))), o4]) ⟨rfl, e2, _, rfl⟩ ?_ ?_)
      · rintro x3 tt ρ' w''' hx3 ⟨rfl, e3, o4, rfl⟩
        rw [fs_drop hx3, Option.or_assoc] at e3
        refine ⟨_, tg_name 4 nd (by decide), ?_⟩
        refine sb_one (s_if (EvT.s (et_val (EvV.dat (vmeth (sv := .d (.bool (fitsK B.rows b k tt (ro : Int) (co : Int) none))) ff hr tg.c.c (vv 0) v.is (va_cons (vv 1) (va_cons (vv 4) (va_cons (vv 2) (va_one (vv 3))))) ⟨a, B, b, x, z, tt, (ro : Int), (co : Int), rfl, v, by rw [hk]⟩))) ⟨fun hv => ?_, fun hv => ?_⟩))
        · have e4 : tryT B.rows b k ro co tt = some (tt, ro, co) := by
            unfold tryT
            rw [if_pos hv]
          rw [e4] at e3
          have e3 : some (tt, ro, co) = Xo := e3
          rw [← e3] at hq
          exact sb_one (s_ret (Ev.s (d := placeD (some (tt, ro, co))) (ev_tup (ea_cons (ev_var 4) (ea_cons (ev_var 2) (ea_one (ev_var 3))))) hq))
        · have e4 : tryT B.rows b k ro co tt = none := by
            unfold tryT
            rw [if_neg (by rw [hv]; exact Bool.false_ne_true)]
          rw [e4] at e3
          exact sb_nil ⟨rfl, e3, _, rfl⟩
      · rintro ρ' w''' ⟨rfl, e3, o4, rfl⟩
        rw [fs_end] at e3
        exact ⟨rfl, e3, _, _, rfl⟩
    · rintro ρ' w'' ⟨rfl, e2, o3, o4, rfl⟩
      have e5 := fs_end (tryC B.rows b k ro) (List.range b.cols)
      rw [e5] at e2
      exact ⟨rfl, e2, _, _, _, rfl⟩
  · rintro ρ' w' ⟨rfl, e1, o2, o3, o4, rfl⟩
    have e5 := fs_end (tryR B.rows b k) (List.range b.rows)
    rw [e5] at e1
    rw [← e1] at hq
    exact sb_one (s_ret (Ev.s ev_non hq))
abbrev LookMF (P : Program) (w : World) (K : PySem.W.Frag) (mg : Str → Option Value) (base : Heap) (CA : Str → Addr) : Prop := FnF P w K mg base 1 "look_many" (lift CA (pmW (rdo lookR)))
theorem ok_look_manyF (tg : TxtG K mg CA) (D : DefT K mg "look_many" T.s_look_many) : LookMF P w K mg base CA := by
  refine mkW D T.sc_look_many ?_ (fun f cdv A outer s H E R0 svs th Q hr h => ?_) fun _ _ _ _ _ _ us hl => match us, hl with | [_], _ => rfl
  · rintro svs th Q ⟨_, ⟨_, rfl, _⟩, _⟩
    rfl
  obtain ⟨r, ⟨m, rfl, rfl⟩, hq⟩ := h
  refine sb_one (s_if (EvT.s (et_lt (ev_var 0) ev_int) ⟨fun hv => ?_, fun hv => ?_⟩))
  · rw [if_pos (of_decide_eq_true hv)] at hq
    exact sb_one (s_raiseT tg.num rfl hq)
  · rw [if_neg (of_decide_eq_false hv)] at hq
    exact sb_nil hq
end
end G
end

section
set_option Elab.async false
set_option linter.all false
set_option maxRecDepth 100000
set_option maxHeartbeats 8000000
/-! ### filling: add -/
namespace G
open PySem PySem.Spec PyProof.Rows L2 Sh
def upStep (k : Kd) (z : Str) (s : Bag × Int) (n : Int) : Bag × Int :=
  if (pileOf s.1 n).kind = z ∧ 0 < s.2 then (s.1.setMany n ((pileOf s.1 n).many + minZ s.2 (k.most - (pileOf s.1 n).many)), s.2 - minZ s.2 (k.most - (pileOf s.1 n).many)) else s
def upAll (k : Kd) (z : Str) (b : Bag) (m : Int) (l : List Int) : Bag × Int := l.foldl (upStep k z) (b, m)
def putAll (ks : Ks) (k : Kd) (z : Str) : Nat → Bag → Int → Bag × Int
  | 0, b, m => (b, m)
  | f + 1, b, m => if 0 < m then (match firstAt ks b k with
    | none => (b, m)
    | some x => putAll ks k z f (b.put ⟨z, minZ m k.most, x.1, (x.2.1 : Int), (x.2.2 : Int)⟩) (m - minZ m k.most)) else (b, m)
def addK (ks : Ks) (k : Kd) (z : Str) (b : Bag) (m : Int) : Bag × Int := putAll ks k z (upAll k z b m (numsB ks b)).2.toNat (upAll k z b m (numsB ks b)).1 (upAll k z b m (numsB ks b)).2
def addD (ks : Ks) (b : Bag) (z : Str) (m : Int) : RB := match aget ks z with
  | none => (.ex "BadKind", b)
  | some k => if m < 0 then (.ex "BadNumber", b) else (.ok (.d (.int (addK ks k z b m).2)), (addK ks k z b m).1)
def gAdd : List Sv → Bok → Bag → RB → Prop := fun svs B b r => ∃ (z : Str) (m : Int), svs = [.d (.str z), .d (.int m)] ∧ r = addD B.rows b z m
structure UpOk (ks : Ks) (b0 : Bag) (s : Bag × Int) : Prop where
  ok : BagOk ks s.1
  keys : s.1.piles.map (·.1) = b0.piles.map (·.1)
  ge : 0 ≤ s.2
theorem minZ_le (i j : Int) : minZ i j ≤ i ∧ minZ i j ≤ j := by
  unfold minZ
  by_cases h : j < i
  · rw [if_pos h]
    omega
  · rw [if_neg h]
    omega
theorem minZ_ge {i j x : Int} (h1 : x ≤ i) (h2 : x ≤ j) : x ≤ minZ i j := by
  unfold minZ
  by_cases h : j < i
  · rw [if_pos h]
    exact h2
  · rw [if_neg h]
    exact h1
theorem setMany_keys (b : Bag) (n m : Int) : (b.setMany n m).piles.map (·.1) = b.piles.map (·.1) := by
  show (b.piles.map (setM n m)).map (·.1) = _
  rw [List.map_map]
  exact List.map_congr_left fun q _ => setM_fst n m q
theorem UpOk.step {ks : Ks} {b0 : Bag} {s : Bag × Int} {k : Kd} {z : Str} {n : Int} (h : UpOk ks b0 s) (hn : n ∈ b0.piles.map (·.1)) (hk : aget ks z = some k) : UpOk ks b0 (upStep k z s n) := by
  unfold upStep
  by_cases hc : (pileOf s.1 n).kind = z ∧ 0 < s.2
  · rw [if_pos hc]
    have hp := pile_there (b := s.1) (by rw [h.keys]; exact hn)
    have hkp : aget ks (pileOf s.1 n).kind = some k := by rw [hc.1]; exact hk
    have hz := minZ_le s.2 (k.most - (pileOf s.1 n).many)
    refine ⟨h.ok.setMany hp hkp (by omega), ?_, ?_⟩
    · show (s.1.setMany n _).piles.map (·.1) = _
      rw [setMany_keys]
      exact h.keys
    · show 0 ≤ s.2 - _
      omega
  · rw [if_neg hc]
    exact h
theorem pileUp_ok {ks : Ks} {b : Bag} {n m : Int} {p : Pil} {k : Kd} {z : Str} (hp : aget b.piles n = some p) (hz : p.kind = z) (hk : aget ks z = some k) (hm : 0 ≤ m) : pileUpD ks b n z m = (.ok (.d (.int (m - minZ m (k.most - p.many)))), b.setMany n (p.many + minZ m (k.most - p.many))) := by
  unfold pileUpD
  rw [hp]
  show (if p.kind = z then (if m < 0 then _ else match aget ks z with | none => _ | some k => _) else _) = _
  rw [if_pos hz, if_neg (by omega), hk]
theorem putAll_fuel (ks : Ks) (k : Kd) (z : Str) (hl : 1 ≤ k.most := by omega) : ∀ (f g : Nat) (b : Bag) (m : Int), m.toNat ≤ f → m.toNat ≤ g → putAll ks k z f b m = putAll ks k z g b m
  | 0, 0, b, m, _, _ => rfl
  | 0, g + 1, b, m, h, _ => by
    rw [putAll, putAll, if_neg (by omega)]
  | f + 1, 0, b, m, _, h => by
    rw [putAll, putAll, if_neg (by omega)]
  | f + 1, g + 1, b, m, h1, h2 => by
    rw [putAll, putAll]
    by_cases hm : 0 < m
    · rw [if_pos hm, if_pos hm]
      cases firstAt ks b k with
      | none => rfl
      | some x =>
        have hz : 1 ≤ minZ m k.most := minZ_ge (by omega) hl
        exact putAll_fuel ks k z hl f g _ _ (by omega) (by omega)
    · rw [if_neg hm, if_neg hm]
theorem opB_book {CA : Str → Addr} {w : List Thing} {a : Addr} {B : Bok} {b : Bag} {j i : Nat} {x : BagX} (h : InBag CA w a B b j i) : (opB CA w a B b j x)[i + 4]? = some (BookT (CA "Book") B) := by
  show (w.set j EmpT)[i]? = _
  rw [List.getElem?_set_ne (Ne.symm h.ne)]
  exact h.book
section
variable {P : Program} {w : World} {K : PySem.W.Frag} {mg : Str → Option Value} {base : Heap} {CA : Str → Addr}
abbrev AddF (P : Program) (w : World) (K : PySem.W.Frag) (mg : Str → Option Value) (base : Heap) (CA : Str → Addr) : Prop := FnF P w K mg base 8 "add" (lift CA (pmW (spB CA gAdd)))
theorem ok_add (hmn : mg "min" = none) (tg : TxtG K mg CA) (fn : NeedF P w K mg base CA) (fl : LookMF P w K mg base CA) (fnu : NumsF P w K mg base CA) (fpu : PileUpF P w K mg base CA) (ffp : FirstPF P w K mg base CA) (fm : BMostF P w K mg base CA) (fput : PutF P w K mg base CA) (good1 : True) (D : DefT K mg "add" T.s_add) : AddF P w K mg base CA := by
  refine mkW D T.sc_add ?_ (fun f cdv A outer s H E R0 svs th Q hr h => ?_) fun _ _ _ _ _ _ us hl => match us, hl with | [_, _, _], _ => rfl
  · rintro svs th Q ⟨_, _, _, _, _, _, _, _, rfl, _, ⟨_, _, rfl, _⟩, _⟩
    rfl
  obtain ⟨a, B, b, j, i, rest, r, b', rfl, hin, ⟨z, m, rfl, hres⟩, hq⟩ := h
  have nd := T.sc_add.nd
  unfold addD at hres
  refine sb_cons (s_expr (es_view hin fun x hx => emeth fn (hr.mono (by decide)) tg.b.c (vb (bagV_open tg hin hx) (vv 0) rfl) (book_is (i + 4) (opB_book hin)) (va_one (vv 1)) ⟨_, ⟨i + 4, B, z, rfl, opB_book hin, rfl⟩, resS_at ?_⟩))
  cases ek : aget B.rows z with
  | none =>
    rw [ek] at hres
    cases hres
    rw [hin.same] at hq
    exact hq
  | some k =>
    rw [ek] at hres
    have hres : (r, b') = if m < 0 then (.ex "BadNumber", b) else (.ok (.d (.int (addK B.rows k z b m).2)), (addK B.rows k z b m).1) := hres
    have gk : k.m.Good := hin.good.g _ (aget_mem ek)
    have hlim : 1 ≤ k.most := (hin.good.lim _ (aget_mem ek)).1
    refine sb_cons (s_expr (ecall fl (hr.mono (by decide)) (va_one (vv 2)) ⟨_, ⟨m, rfl, rfl⟩, ?_⟩))
    by_cases hm : m < 0
    · rw [if_pos hm] at hres ⊢
      cases hres
      rw [hin.same] at hq
      exact hq
    rw [if_neg hm] at hres ⊢
    have hm0 : 0 ≤ m := by omega
    obtain ⟨rfl, rfl⟩ := Prod.mk.inj hres
    have hIB : ∀ b', BagOk B.rows b' → InBag CA (th.set j (bagAt CA a B b')) a B b' j i := fun b' ok' => hin.set ok'
    have hnum : ∀ n ∈ numsB B.rows b, n ∈ b.piles.map (·.1) := fun n hn => numsB_mem.mp hn
    refine sb_cons (s_for (numsB B.rows b) PyData.int (vs := [3]) (passes_of rfl) rfl (ei_list (ev_view hin fun x hx => EvV.dat (vmeth0 fnu hr tg.c.c (vv 0) (bagV_open tg hin hx).is ⟨a, B, b, x, rfl, bagV_open tg hin hx, rfl⟩)))
      (fun i ρ' w' => ∃ (st : Bag × Int) (o3 : Option Sv), w' = th.set j (bagAt CA a B st.1) ∧ st = upAll k z b m ((numsB B.rows b).take i) ∧ UpOk B.rows b st ∧ ρ' = [some (.raw (.ref a)), some (.d (.str z)), some (.d (.int st.2)), o3, none, none])
      ⟨(b, m), _, hin.same.symm, rfl, ⟨hin.ok, rfl, hm0⟩, rfl⟩ ?_ ?_)
    · rintro x1 n ρ' w' hx1 ⟨st, o3, rfl, est, ust, rfl⟩
      obtain ⟨hil, hne⟩ := List.getElem?_eq_some_iff.mp hx1
      have hnk : n ∈ b.piles.map (·.1) := hnum n (hne ▸ List.getElem_mem _)
      have hp := pile_there (b := st.1) (by rw [ust.keys]; exact hnk)
      have hnext : upAll k z b m ((numsB B.rows b).take (x1 + 1)) = upStep k z st n := by
        unfold upAll at est ⊢
        rw [List.take_succ_eq_append_getElem hil, hne, List.foldl_append, ← est]
        rfl
      have hin1 := hIB st.1 ust.ok
      refine ⟨_, tg_name 3 nd (by decide), ?_⟩
      refine sb_one (s_if (EvT.s (et_and (et_eqS (ev_view hin1 fun x hx => ev_pile (bagV_open tg hin1 hx) (u1 hr) hp rfl (vv 0) (ev_var 3)) (ev_var 1)) (fun _ => et_gt (ev_var 2) ev_int)) ⟨fun hv => ?_, fun hv => ?_⟩))
      · rw [Bool.and_eq_true, decide_eq_true_eq, decide_eq_true_eq] at hv
        have hst : upStep k z st n = (st.1.setMany n ((pileOf st.1 n).many + minZ st.2 (k.most - (pileOf st.1 n).many)), st.2 - minZ st.2 (k.most - (pileOf st.1 n).many)) := by
          unfold upStep
          rw [if_pos hv]
        have u2 := ust.step hnk ek
        rw [hst] at u2 hnext
        refine sb_one (s_asg 2 nd (emeth fpu (hr.mono (by decide)) tg.c.c (vv 0) (bag_is j hin1.bag) (va_cons (vv 3) (va_cons (vv 1) (va_one (vv 2)))) ⟨a, B, st.1, j, i, _, .ok (.d (.int (st.2 - minZ st.2 (k.most - (pileOf st.1 n).many)))), st.1.setMany n ((pileOf st.1 n).many + minZ st.2 (k.most - (pileOf st.1 n).many)), rfl, hin1, ⟨n, z, st.2, rfl, (pileUp_ok hp hv.1 ek ust.ge).symm⟩, ?_⟩))
        rw [List.set_set]
        exact ⟨(st.1.setMany n ((pileOf st.1 n).many + minZ st.2 (k.most - (pileOf st.1 n).many)), st.2 - minZ st.2 (k.most - (pileOf st.1 n).many)), _, rfl, hnext.symm, u2, rfl⟩
      · have hst : upStep k z st n = st := by
          unfold upStep
          rw [if_neg]
          rintro ⟨h1, h2⟩
          rw [decide_eq_true h1, decide_eq_true h2] at hv
          cases hv
        rw [hst] at hnext
        exact sb_nil ⟨st, _, rfl, hnext.symm, ust, rfl⟩
    · rintro ρ' w' ⟨st, o3, rfl, est, ust, rfl⟩
      rw [List.take_length] at est
      have hfin : addK B.rows k z b m = putAll B.rows k z st.2.toNat st.1 st.2 := by
        unfold addK
        rw [← est]
      rw [hfin] at hq
      refine sb_cons (s_while (passes_of rfl) (fun nn ρ' w' => ∃ (b1 : Bag) (m1 : Int) (o3 o4 o5 : Option Sv), nn = m1.toNat ∧ 0 ≤ m1 ∧ BagOk B.rows b1 ∧ putAll B.rows k z nn b1 m1 = putAll B.rows k z st.2.toNat st.1 st.2 ∧ w' = th.set j (bagAt CA a B b1) ∧ ρ' = [some (.raw (.ref a)), some (.d (.str z)), some (.d (.int m1)), o3, o4, o5]) st.2.toNat ⟨st.1, st.2, _, _, _, rfl, ust.ge, ust.ok, rfl, rfl, rfl⟩ ?_)
      rintro nn ρ' w' ⟨b1, m1, o3, o4, o5, en, hm1, ok1, efin, rfl, rfl⟩
      have hin1 := hIB b1 ok1
      refine EvT.s (et_gt (ev_var 2) ev_int) ⟨fun hv => ?_, fun hv => ?_⟩
      · have hv := of_decide_eq_true hv
        obtain ⟨fu, rfl⟩ : ∃ fu, nn = fu + 1 := ⟨nn - 1, by omega⟩
        have hpa : putAll B.rows k z (fu + 1) b1 m1 = match firstAt B.rows b1 k with
          | none => (b1, m1)
          | some x => putAll B.rows k z fu (b1.put ⟨z, minZ m1 k.most, x.1, (x.2.1 : Int), (x.2.2 : Int)⟩) (m1 - minZ m1 k.most) := by
          rw [putAll, if_pos hv]
        rw [hpa] at efin
        refine sb_cons (s_asg 4 nd (Ev.s (ev_view hin1 fun x hx => EvV.dat (vcall ffp (hr.mono (by decide)) (va_cons (vv 0) (va_one (vv 1))) ⟨a, B, b1, x, z, k, rfl, bagV_open tg hin1 hx, ek, rfl⟩)) ?_))
        cases ef : firstAt B.rows b1 k with
        | none =>
          rw [ef] at efin
          have efin : (b1, m1) = putAll B.rows k z st.2.toNat st.1 st.2 := efin
          rw [← efin] at hq
          refine sb_cons (s_if (EvT.s (v := true) (EvT.is (et_isN (ev_var 4)) rfl) ⟨fun _ => ?_, fun h => (by cases h)⟩))
          exact sb_one (s_ret (Ev.s (ev_var 2) hq))
        | some x =>
          rw [ef] at efin
          have efin : putAll B.rows k z fu (b1.put ⟨z, minZ m1 k.most, x.1, (x.2.1 : Int), (x.2.2 : Int)⟩) (m1 - minZ m1 k.most) = putAll B.rows k z st.2.toNat st.1 st.2 := efin
          have hfit := first_some ef
          have hz := minZ_le m1 k.most
          have hz1 : 1 ≤ minZ m1 k.most := minZ_ge (by omega) hlim
          refine sb_cons (s_if (EvT.s (v := false) (EvT.is (et_isN (ev_var 4)) rfl) ⟨(fun h => (by cases h)), fun _ => sb_nil ?_⟩))
          refine sb_cons (s_asg 5 nd (Ev.s (d := .int (minZ m1 k.most)) (ev_min2 rfl hmn (ev_var 2) (ev_view hin1 fun y hy => EvV.dat (vmeth (sv := .d (.int k.most)) fm (hr.mono (by decide)) tg.b.c (vb (bagV_open tg hin1 hy) (vv 0) rfl) (book_is (i + 4) (opB_book hin1)) (va_one (vv 1)) ⟨i + 4, B, z, rfl, opB_book hin1, by rw [ek]⟩))) ?_))
          refine sb_cons (s_expr (emeth fput (hr.mono (by decide)) tg.c.c (vv 0) (bag_is j hin1.bag) (va_cons (vv 1) (va_cons (vv 5) (va_cons (Ev.v (ev_ixT (ev_var 4) ev_int rfl)) (va_cons (Ev.v (ev_ixT (ev_var 4) ev_int rfl)) (va_one (Ev.v (ev_ixT (ev_var 4) ev_int rfl))))))) ⟨a, B, b1, j, i, _, .ok (.d (.int (b1.last + 1))), b1.put ⟨z, minZ m1 k.most, x.1, (x.2.1 : Int), (x.2.2 : Int)⟩, rfl, hin1, ⟨z, minZ m1 k.most, x.1, (x.2.1 : Int), (x.2.2 : Int), rfl, ?_⟩, ?_⟩))
          · rw [put_some ek, if_pos ⟨hz1, hz.2⟩, if_pos hfit]
          · rw [List.set_set]
            refine sb_one (s_asg 2 nd (Ev.s (ev_sub (ev_var 2) (ev_var 5)) ?_))
            refine ⟨(m1 - minZ m1 k.most).toNat, by omega, b1.put ⟨z, minZ m1 k.most, x.1, (x.2.1 : Int), (x.2.2 : Int)⟩, m1 - minZ m1 k.most, _, _, _, rfl, by omega, ok1.put (p := ⟨z, minZ m1 k.most, x.1, (x.2.1 : Int), (x.2.2 : Int)⟩) ek gk hz.2 hfit, ?_, rfl, rfl⟩
            rw [← efin]
            exact putAll_fuel _ _ _ hlim _ _ _ _ (by omega) (by omega)
      · have hv := of_decide_eq_false hv
        have e0 : m1 = 0 := by omega
        subst e0
        have en : nn = 0 := en
        subst en
        have efin : (b1, (0 : Int)) = putAll B.rows k z st.2.toNat st.1 st.2 := efin
        rw [← efin] at hq
        exact sb_one (s_ret (Ev.s ev_int hq))
end
end G
end

section
set_option Elab.async false
set_option linter.all false
set_option maxRecDepth 100000
set_option maxHeartbeats 4000000
/-! ### plain: counting (E22b, E22d have the same) -/
namespace G
open PySem PySem.Spec PyProof.Rows L2 Sh
theorem perm_sum {l m : List Int} (h : l.Perm m) : l.sum = m.sum := by
  induction h with
  | nil => rfl
  | cons x h ih => rw [List.sum_cons, List.sum_cons, ih]
  | swap x y l =>
    simp only [List.sum_cons]
    omega
  | trans h1 h2 i1 i2 => rw [i1, i2]
def cnt (l : List Pil) (z : Str) : Int := ((l.filter fun p => decide (p.kind = z)).map fun p => p.many).sum
theorem cnt_of (b : Bag) (z : Str) : countB b z = cnt (b.piles.map (·.2)) z := by
  unfold countB cnt
  rw [List.filter_map, List.map_map]
  rfl
theorem cnt_perm {l m : List Pil} (h : l.Perm m) (z : Str) : cnt l z = cnt m z := perm_sum ((h.filter _).map _)
theorem cnt_cons (p : Pil) (l : List Pil) (z : Str) : cnt (p :: l) z = (if p.kind = z then p.many else 0) + cnt l z := by
  unfold cnt
  by_cases h : p.kind = z
  · rw [List.filter_cons_of_pos (by simpa using h), List.map_cons, List.sum_cons, if_pos h]
  · rw [List.filter_cons_of_neg (by simpa using h), if_neg h, Int.zero_add]
theorem cnt_app (l m : List Pil) (z : Str) : cnt (l ++ m) z = cnt l z + cnt m z := by
  unfold cnt
  rw [List.filter_append, List.map_append, List.sum_append]
theorem adrop_perm {n : Int} {p : Pil} {l : List (Int × Pil)} (nd : (l.map (·.1)).Nodup) (h : (n, p) ∈ l) : ((n, p) :: adrop l n).Perm l := by
  induction l with
  | nil => cases h
  | cons q l ih =>
    rw [List.map_cons, List.nodup_cons] at nd
    unfold adrop at ih ⊢
    rcases List.mem_cons.mp h with rfl | h
    · rw [List.filter_cons_of_neg (by simp), List.filter_eq_self.mpr fun x hx => ?_]
      exact decide_eq_true fun e => nd.1 (by rw [← e]; exact List.mem_map.mpr ⟨x, hx, rfl⟩)
    · have hne : q.1 ≠ n := fun e => nd.1 (by rw [e]; exact List.mem_map.mpr ⟨_, h, rfl⟩)
      rw [List.filter_cons_of_pos (by simpa using hne)]
      exact (List.Perm.swap _ _ _).trans ((ih nd.2 h).cons q)
end G
end

section
set_option Elab.async false
set_option linter.all false
set_option maxRecDepth 100000
set_option maxHeartbeats 4000000
/-! ### filling, plain: what add leaves -/
namespace G
open PySem PySem.Spec PyProof.Rows L2 Sh
def oth (b : Bag) (z : Str) : List (Int × Pil) := b.piles.filter fun q => decide (q.2.kind ≠ z)
theorem oth_setMany {b : Bag} {n m : Int} {z : Str} (h : ∀ p, (n, p) ∈ b.piles → p.kind = z) : oth (b.setMany n m) z = oth b z := by
  unfold oth
  show (b.piles.map (setM n m)).filter _ = _
  have : ∀ ps : List (Int × Pil), (∀ q ∈ ps, q.1 = n → q.2.kind = z) → (ps.map (setM n m)).filter (fun q => decide (q.2.kind ≠ z)) = ps.filter fun q => decide (q.2.kind ≠ z) := by
    intro ps hp
    induction ps with
    | nil => rfl
    | cons q ps ih =>
      have ih := ih fun x hx => hp x (List.mem_cons_of_mem _ hx)
      rw [List.map_cons]
      by_cases e : q.1 = n
      · have hk := hp q List.mem_cons_self e
        rw [List.filter_cons_of_neg (by rw [(setM_kind n m q).1]; simp [hk]), List.filter_cons_of_neg (by simp [hk]), ih]
      · have e2 : setM n m q = q := by
          unfold setM
          rw [if_neg e]
        rw [e2, List.filter_cons, List.filter_cons, ih]
  exact this _ fun q hq e => h q.2 (by rw [← e]; exact hq)
theorem oth_put (b : Bag) (p : Pil) {z : Str} (h : p.kind = z) : oth (b.put p) z = oth b z := by
  unfold oth
  show (b.piles ++ [(b.last + 1, p)]).filter _ = _
  rw [List.filter_append, List.filter_cons_of_neg (by simp [h]), List.filter_nil, List.append_nil]
theorem cnt_setMany {b : Bag} {n m : Int} {p : Pil} (nd : (b.piles.map (·.1)).Nodup) (hp : aget b.piles n = some p) : countB (b.setMany n m) p.kind = countB b p.kind + (m - p.many) := by
  have pm := adrop_perm nd (aget_mem hp)
  rw [cnt_of, cnt_of]
  show cnt ((b.piles.map (setM n m)).map (·.2)) p.kind = _
  have e1 : cnt ((b.piles.map (setM n m)).map (·.2)) p.kind = cnt ((((n, p) :: adrop b.piles n).map (setM n m)).map (·.2)) p.kind := cnt_perm ((pm.symm.map _).map _) _
  have e2 : cnt (b.piles.map (·.2)) p.kind = cnt (((n, p) :: adrop b.piles n).map (·.2)) p.kind := cnt_perm (pm.symm.map _) _
  have e3 : (adrop b.piles n).map (setM n m) = adrop b.piles n := map_keep fun q hq => by
    unfold setM
    have := (List.mem_filter.mp hq).2
    rw [if_neg (by simpa using this)]
  have e4 : (setM n m (n, p)).2 = { p with many := m } := by
    unfold setM
    rw [if_pos rfl]
  rw [e1, e2]
  simp only [List.map_cons, e3, cnt_cons]
  rw [e4]
  rw [if_pos rfl]
  simp only [if_true]
  show m + cnt ((adrop b.piles n).map (·.2)) p.kind = p.many + cnt ((adrop b.piles n).map (·.2)) p.kind + (m - p.many)
  omega
theorem cnt_put (b : Bag) (p : Pil) : countB (b.put p) p.kind = countB b p.kind + p.many := by
  rw [cnt_of, cnt_of]
  show cnt ((b.piles ++ [(b.last + 1, p)]).map (·.2)) p.kind = _
  rw [List.map_append, cnt_app]
  show _ + cnt [p] p.kind = _
  rw [cnt_cons, if_pos rfl]
  show _ + (p.many + 0) = _
  omega
/-- what add keeps, step by step -/
structure Kept (ks : Ks) (z : Str) (b0 : Bag) (m0 : Int) (s : Bag × Int) : Prop where
  ok : BagOk ks s.1
  oth : oth s.1 z = oth b0 z
  cnt : countB s.1 z + s.2 = countB b0 z + m0
  ge : 0 ≤ s.2
  le : s.2 ≤ m0
  pos : BagPos b0 → BagPos s.1
  r : s.1.rows = b0.rows
  c : s.1.cols = b0.cols
  la : b0.last ≤ s.1.last
section
variable {ks : Ks} {z : Str} {b0 : Bag} {m0 : Int} {k : Kd}
theorem Kept.up {s : Bag × Int} {n : Int} (h : Kept ks z b0 m0 s) (hn : n ∈ s.1.piles.map (·.1)) (hk : aget ks z = some k) : Kept ks z b0 m0 (upStep k z s n) := by
  unfold upStep
  by_cases hc : (pileOf s.1 n).kind = z ∧ 0 < s.2
  · rw [if_pos hc]
    have hp := pile_there hn
    have hkp : aget ks (pileOf s.1 n).kind = some k := by rw [hc.1]; exact hk
    obtain ⟨k', hk', _, _, hmo, _⟩ := h.ok.pil _ (aget_mem hp)
    have hk' : aget ks (pileOf s.1 n).kind = some k' := hk'
    rw [hkp] at hk'
    cases hk'
    have hmo : (pileOf s.1 n).many ≤ k.most := hmo
    have hz := minZ_le s.2 (k.most - (pileOf s.1 n).many)
    have hg : 0 ≤ minZ s.2 (k.most - (pileOf s.1 n).many) := minZ_ge (by omega) (by omega)
    refine ⟨h.ok.setMany hp hkp (by omega), ?_, ?_, by show 0 ≤ s.2 - _; omega, by have := h.le; show s.2 - _ ≤ m0; omega, fun h0 => ?_, h.r, h.c, h.la⟩
    · rw [← h.oth]
      refine oth_setMany fun p hm => ?_
      rw [← hc.1]
      have := aget_of_mem h.ok.num hm
      rw [hp] at this
      cases this
      rfl
    · have e := cnt_setMany (m := (pileOf s.1 n).many + minZ s.2 (k.most - (pileOf s.1 n).many)) h.ok.num hp
      rw [hc.1] at e
      have := h.cnt
      show countB (s.1.setMany n _) z + (s.2 - _) = _
      rw [e]
      omega
    · intro q hq
      obtain ⟨x, hx, rfl⟩ := List.mem_map.mp (show q ∈ s.1.piles.map (setM n _) from hq)
      unfold setM
      have hpos := h.pos h0
      by_cases e : x.1 = n
      · rw [if_pos e]
        have := hpos _ (aget_mem hp)
        have : 1 ≤ (pileOf s.1 n).many := this
        show 1 ≤ (pileOf s.1 n).many + _
        omega
      · rw [if_neg e]
        exact hpos x hx
  · rw [if_neg hc]
    exact h
theorem Kept.ups (hk : aget ks z = some k) : ∀ (l : List Int) (s : Bag × Int), Kept ks z b0 m0 s → (∀ n ∈ l, n ∈ s.1.piles.map (·.1)) → Kept ks z b0 m0 (l.foldl (upStep k z) s)
  | [], s, h, _ => h
  | n :: l, s, h, hl => by
    refine Kept.ups hk l _ (h.up (hl n List.mem_cons_self) hk) fun x hx => ?_
    have := hl x (List.mem_cons_of_mem _ hx)
    unfold upStep
    by_cases hc : (pileOf s.1 n).kind = z ∧ 0 < s.2
    · rw [if_pos hc]
      show x ∈ (s.1.setMany n _).piles.map (·.1)
      rw [setMany_keys]
      exact this
    · rw [if_neg hc]
      exact this
theorem Kept.puts (hk : aget ks z = some k) (g : k.m.Good) (hl : 1 ≤ k.most) : ∀ (f : Nat) (b : Bag) (m : Int), Kept ks z b0 m0 (b, m) → Kept ks z b0 m0 (putAll ks k z f b m)
  | 0, b, m, h => h
  | f + 1, b, m, h => by
    rw [putAll]
    by_cases hm : 0 < m
    · rw [if_pos hm]
      cases ef : firstAt ks b k with
      | none => exact h
      | some x =>
        have hz := minZ_le m k.most
        have hz1 : 1 ≤ minZ m k.most := minZ_ge (by omega) hl
        refine Kept.puts hk g hl f _ _ ⟨h.ok.put (p := ⟨z, minZ m k.most, x.1, (x.2.1 : Int), (x.2.2 : Int)⟩) hk g hz.2 (first_some ef), (oth_put b _ rfl).trans h.oth, ?_, by show 0 ≤ m - _; omega, by have h1 : m ≤ m0 := h.le; show m - _ ≤ m0; omega, fun h0 => ?_, h.r, h.c, by have h1 : b0.last ≤ b.last := h.la; show b0.last ≤ b.last + 1; omega⟩
        · have e := cnt_put b ⟨z, minZ m k.most, x.1, (x.2.1 : Int), (x.2.2 : Int)⟩
          have e : countB (b.put ⟨z, minZ m k.most, x.1, (x.2.1 : Int), (x.2.2 : Int)⟩) z = countB b z + minZ m k.most := e
          have h2 : countB b z + m = countB b0 z + m0 := h.cnt
          show countB (b.put ⟨z, minZ m k.most, x.1, (x.2.1 : Int), (x.2.2 : Int)⟩) z + (m - minZ m k.most) = _
          rw [e]
          omega
        · intro q hq
          rcases List.mem_append.mp (show q ∈ b.piles ++ [(b.last + 1, (⟨z, minZ m k.most, x.1, (x.2.1 : Int), (x.2.2 : Int)⟩ : Pil))] from hq) with hq | hq
          · exact h.pos h0 q hq
          · have : q = (b.last + 1, (⟨z, minZ m k.most, x.1, (x.2.1 : Int), (x.2.2 : Int)⟩ : Pil)) := by simpa using hq
            subst this
            exact hz1
    · rw [if_neg hm]
      exact h
theorem add_kept {b : Bag} {m : Int} (ok : BagOk ks b) (hm : 0 ≤ m) (hk : aget ks z = some k) (g : k.m.Good) (hl : 1 ≤ k.most) : Kept ks z b m (addK ks k z b m) := by
  unfold addK
  have h0 : Kept ks z b m (b, m) := ⟨ok, rfl, rfl, hm, Int.le_refl _, fun h => h, rfl, rfl, Int.le_refl _⟩
  have h1 : Kept ks z b m (upAll k z b m (numsB ks b)) := Kept.ups hk (numsB ks b) (b, m) h0 fun n hn => numsB_mem.mp hn
  exact Kept.puts hk g hl _ _ _ h1
/-! left over: no place is free, all piles of the kind are full -/
theorem putAll_end (hl : 1 ≤ k.most) : ∀ (f : Nat) (b : Bag) (m : Int), m.toNat ≤ f → 0 < (putAll ks k z f b m).2 → firstAt ks (putAll ks k z f b m).1 k = none
  | 0, b, m, h, hp => by
    rw [putAll] at hp
    have hp : 0 < m := hp
    omega
  | f + 1, b, m, h, hp => by
    rw [putAll] at hp ⊢
    by_cases hm : 0 < m
    · rw [if_pos hm] at hp ⊢
      cases ef : firstAt ks b k with
      | none => exact ef
      | some x =>
        rw [ef] at hp
        have hz1 : 1 ≤ minZ m k.most := minZ_ge (by omega) hl
        exact putAll_end hl f _ _ (by omega) hp
    · rw [if_neg hm] at hp
      exact absurd hp hm
theorem putAll_le (hl : 1 ≤ k.most) : ∀ (f : Nat) (b : Bag) (m : Int), (putAll ks k z f b m).2 ≤ m
  | 0, b, m => Int.le_refl _
  | f + 1, b, m => by
    rw [putAll]
    by_cases hm : 0 < m
    · rw [if_pos hm]
      cases ef : firstAt ks b k with
      | none => exact Int.le_refl _
      | some x =>
        have hz1 : 1 ≤ minZ m k.most := minZ_ge (by omega) hl
        have := putAll_le hl f (b.put ⟨z, minZ m k.most, x.1, (x.2.1 : Int), (x.2.2 : Int)⟩) (m - minZ m k.most)
        show (putAll ks k z f (b.put ⟨z, minZ m k.most, x.1, (x.2.1 : Int), (x.2.2 : Int)⟩) (m - minZ m k.most)).2 ≤ m
        omega
    · rw [if_neg hm]
      exact Int.le_refl _
def Full (b : Bag) (k : Kd) (z : Str) : Prop := ∀ q ∈ b.piles, q.2.kind = z → q.2.many = k.most
theorem putAll_full (hl : 1 ≤ k.most) : ∀ (f : Nat) (b : Bag) (m : Int), Full b k z → 0 < (putAll ks k z f b m).2 → Full (putAll ks k z f b m).1 k z
  | 0, b, m, h, hp => h
  | f + 1, b, m, h, hp => by
    rw [putAll] at hp ⊢
    by_cases hm : 0 < m
    · rw [if_pos hm] at hp ⊢
      cases ef : firstAt ks b k with
      | none => exact h
      | some x =>
        rw [ef] at hp
        have hp : 0 < (putAll ks k z f (b.put ⟨z, minZ m k.most, x.1, (x.2.1 : Int), (x.2.2 : Int)⟩) (m - minZ m k.most)).2 := hp
        show Full (putAll ks k z f (b.put ⟨z, minZ m k.most, x.1, (x.2.1 : Int), (x.2.2 : Int)⟩) (m - minZ m k.most)).1 k z
        refine putAll_full hl f _ _ (fun q hq hk => ?_) hp
        rcases List.mem_append.mp (show q ∈ b.piles ++ [(b.last + 1, (⟨z, minZ m k.most, x.1, (x.2.1 : Int), (x.2.2 : Int)⟩ : Pil))] from hq) with hq | hq
        · exact h q hq hk
        · have : q = (b.last + 1, (⟨z, minZ m k.most, x.1, (x.2.1 : Int), (x.2.2 : Int)⟩ : Pil)) := by simpa using hq
          subst this
          show minZ m k.most = k.most
          have hle := putAll_le (ks := ks) (z := z) hl f (b.put ⟨z, minZ m k.most, x.1, (x.2.1 : Int), (x.2.2 : Int)⟩) (m - minZ m k.most)
          unfold minZ at hle hp ⊢
          by_cases hh : k.most < m
          · rw [if_pos hh]
          · rw [if_neg hh] at hle hp
            omega
    · rw [if_neg hm]
      exact h
end
end G
end

section
set_option Elab.async false
set_option linter.all false
set_option maxRecDepth 100000
set_option maxHeartbeats 4000000
/-! ### a or b or c, a and b and c, with a state -/
namespace G
open PySem PySem.Spec PyProof.Rows L2
section
variable {X : Cx} {CA : Str → Addr} {Y : Wd} {ρ : Rho} {w : Y.W} {a b c : Expr} {pos : Pos} {O : Sv → Y.W → Prop} {Ox : Str → Y.W → Prop} {OT : Bool → Y.W → Prop}
theorem est_or3 (h : EvST X CA Y ρ w a (fun v w1 => (v = true → OT true w1) ∧ (v = false → EvST X CA Y ρ w1 b (fun v w2 => (v = true → OT true w2) ∧ (v = false → EvST X CA Y ρ w2 c OT Ox)) Ox)) Ox) : EvST X CA Y ρ w (.BoolOp .Or [a, b, c] pos) OT Ox := fun F L R H σ g i k Q Wx tk q qx =>
  toT (pw_or (pt_w a) (pw_or (pt_w b) (pw_or1 (pt_w c)))).pt (h F L R H σ g i k _ Wx tk (fun v w1 F1 R1 H1 o1 s1 i1 k1 => by
    cases v with
    | true =>
      rw [if_pos rfl]
      exact q true w1 F1 R1 H1 (o1.1 rfl) s1 i1 k1
    | false =>
      rw [if_neg Bool.false_ne_true]
      refine o1.2 rfl F1 L R1 H1 σ (g.mono s1) i1 k1 _ Wx tk (fun v w2 F2 R2 H2 o2 s2 i2 k2 => ?_) (qx.same s1)
      cases v with
      | true =>
        rw [if_pos rfl]
        exact q true w2 F2 R2 H2 (o2.1 rfl) (s1.trans s2) i2 k2
      | false =>
        rw [if_neg Bool.false_ne_true]
        exact o2.2 rfl F2 L R2 H2 σ (g.mono (s1.trans s2)) i2 k2 Q Wx tk (q.same (s1.trans s2)) (qx.same (s1.trans s2))) qx)
theorem es_and3 (h : EvS X CA Y ρ w a (fun sv w1 => sv = .d (.bool true) ∧ EvS X CA Y ρ w1 b (fun sv w2 => sv = .d (.bool true) ∧ EvS X CA Y ρ w2 c O Ox) Ox) Ox) : EvS X CA Y ρ w (.BoolOp .And [a, b, c] pos) O Ox := fun F L R H σ g i k Q Wx tk q qx =>
  toE (pe_and (pe_w a) (pe_and (pe_w b) (pe_one (pe_w c)))) (h F L R H σ g i k _ Wx tk (fun sv w1 v F1 R1 H1 o1 s1 i1 r1 n1 k1 => by
    obtain ⟨e1, o1⟩ := o1
    subst e1
    cases r1
    refine ⟨true, rfl, ?_⟩
    rw [if_pos rfl]
    refine o1 F1 L R1 H1 σ (g.mono s1) i1 k1 _ Wx tk (fun sv w2 v F2 R2 H2 o2 s2 i2 r2 n2 k2 => ?_) (qx.same s1)
    obtain ⟨e2, o2⟩ := o2
    subst e2
    cases r2
    refine ⟨true, rfl, ?_⟩
    rw [if_pos rfl]
    exact o2 F2 L R2 H2 σ (g.mono (s1.trans s2)) i2 k2 _ Wx tk (fun sv w3 v F3 R3 H3 o3 s3 => q sv w3 v F3 R3 H3 o3 ((s1.trans s2).trans s3)) (qx.same (s1.trans s2))) qx)
end
end G
end

section
set_option Elab.async false
set_option linter.all false
set_option maxRecDepth 100000
set_option maxHeartbeats 4000000
/-! ### lists of any values, as things -/
namespace G
open PySem PySem.Spec PyProof.Rows L2
def LstS (p : Addr) (svs : List Sv) : Thing := ⟨fun F M => ∃ vs, M p = some (.lst vs) ∧ PairS F no vs svs, fun sF sM h => by
  obtain ⟨vs, h1, h2⟩ := h
  exact ⟨vs, sM _ _ h1, pairS_mono sF h2⟩⟩
theorem Ok.toR {F L R H : Hp} {D : Addr} {o : HO} (hD : L D = none) (k : Ok F (upd L D o) R H) : Ok F L (upd R D o) H := by
  have sL : Same L (upd L D o) := same_new hD
  have h1 : (upd L D o) D = some o := upd_same
  have hR : R D = none := none_r k.lr h1
  have hF : F D = none := none_l k.fl h1
  refine ⟨k.f, sL.trans k.l, fun a u e => ?_, fun a => ?_, fun a => ?_, fun a => ?_⟩
  · by_cases ha : a = D
    · subst ha
      rw [upd_same] at e
      rw [← e]
      exact k.l _ _ h1
    · rw [upd_ne ha] at e
      exact k.r _ _ e
  · rcases k.fl a with h | h
    · exact .inl h
    · by_cases ha : a = D
      · subst ha
        rw [upd_same] at h
        cases h
      · rw [upd_ne ha] at h
        exact .inr h
  · by_cases ha : a = D
    · subst ha
      exact .inl hF
    · rw [upd_ne ha]
      exact k.fr a
  · by_cases ha : a = D
    · subst ha
      exact .inl hD
    · rw [upd_ne ha]
      rcases k.lr a with h | h
      · rw [upd_ne ha] at h
        exact .inl h
      · exact .inr h
theorem pairS_app {F L : Hp} {ws : List V} {tvs : List Sv} (q : PairS F L ws tvs) : ∀ {vs : List V} {svs : List Sv}, PairS F L vs svs → PairS F L (vs ++ ws) (svs ++ tvs)
  | _, _, .nil => q
  | _, _, .cons h r => .cons h (pairS_app q r)
theorem pairS_get {F L : Hp} : ∀ {vs : List V} {svs : List Sv} {i : Nat} {sv : Sv}, PairS F L vs svs → svs[i]? = some sv → ∃ v, vs[i]? = some v ∧ RpS F L v sv ∧ isOwn sv = false
  | _, _, _, _, .nil, e => by simp at e
  | _, _, 0, _, .cons h r, e => by
    simp only [List.getElem?_cons_zero, Option.some.injEq] at e
    subst e
    exact ⟨_, rfl, h.1, h.2⟩
  | _, _, i + 1, _, .cons h r, e => by
    rw [List.getElem?_cons_succ] at e
    obtain ⟨v, h1, h2⟩ := pairS_get r e
    exact ⟨v, by rw [List.getElem?_cons_succ]; exact h1, h2⟩
theorem atI_pair {F L : Hp} {vs : List V} {svs : List Sv} {sv : Sv} {z : Int} (r : PairS F L vs svs) (h : atI svs z = some sv) : ∃ v, atI vs z = some v ∧ RpS F L v sv ∧ isOwn sv = false := by
  unfold atI at h ⊢
  rw [pairS_len r]
  cases e : ixN svs.length z with
  | none =>
    rw [e] at h
    cases h
  | some n =>
    rw [e] at h
    exact pairS_get r h
section
variable {X : Cx} {CA : Str → Addr} {R0 : Hp} {ρ : Rho} {w : List Thing} {a b e elt tg iter : Expr} {ifs : List Expr} {scope : Scope} {own : List (Str × Nat)} {pos : Pos} {O : Sv → List Thing → Prop} {Ox : Str → List Thing → Prop} {sv : Sv} {svs : List Sv} {p : Addr} {i : Int}
/-- xs[i] of a list that is a thing -/
theorem vlget (j : Nat) (ha : EvV X ((ThW R0).om w) ρ a (.raw (.ref p))) (hb : Ev X ((ThW R0).om w) ρ b (.int i)) (hw : w[j]? = some (LstS p svs)) (hi : atI svs i = some sv) (hs : PlainIx b := by exact fun _ _ => rfl) : EvV X ((ThW R0).om w) ρ (.Subscript a b pos) sv := fun F L R H σ g om k Q q =>
  toE (pe_ix ix_list (pe_w a) (pe_w b) hs) (ha F L R H σ g om k _ fun x F1 R1 H1 s1 o1 k1 r1 => hb F1 L R1 H1 σ (g.mono s1) o1 k1 _ fun y F2 R2 H2 s2 o2 k2 r2 => by
    cases r1
    cases r2
    have o2 : Sep F2 R0 w R2 := o2
    obtain ⟨M, ⟨vs, h1, h2⟩, h3⟩ := o2.get hw
    obtain ⟨v, h4, h5, h6⟩ := atI_pair h2 hi
    exact ⟨p, vs, i, v, rfl, rfl, SqL.of (k2.r _ _ (h3 _ _ h1)), h4, q v F2 R2 H2 (s1.trans s2) o2 k2 (RpS.anyL h6 h5)⟩)
/-- a comprehension whose elements are any values; its list is a thing -/
theorem lcV {α : Type} (enc : α → PyData)
    (hi : EvSI X CA (ThW R0) ρ w tg iter (fun ds w1 => ∃ xs : List α, ds = xs.map enc ∧ xs.length < sizeLine ∧ ∃ (rt : α → Rho) (Pv : Nat → List Sv → List Thing → Prop), Pv 0 [] w1 ∧
      (∀ (i : Nat) (x : α) acc w', xs[i]? = some x → Pv i acc w' → (∀ s H C cl fp, TgD (Bk X scope s H C cl fp) (own.map (·.2)) tg (enc x) (wipeR ρ (own.map (·.2))) (rt x)) ∧
        ∀ s H C cl fp, EvSTs (Bk X scope s H C cl fp) (ThW R0) (rt x) w' ifs (fun b w2 => (b = true → ∀ s H C cl fp, EvS (Bk X scope s H C cl fp) CA (ThW R0) (rt x) w2 elt (fun sv w3 => Pv (i + 1) (acc ++ [sv]) w3) (fun _ _ => False)) ∧ (b = false → Pv (i + 1) acc w2))) ∧
      ∀ acc w', Pv xs.length acc w' → ∀ p, O (.raw (.ref p)) (w' ++ [LstS p acc])) Ox) : LcS X CA (ThW R0) ρ w tg iter ifs elt scope own O Ox := fun F L R H σ g ii k Q Wx tk q qx => by
  refine hi F L R H σ g ii k _ Wx tk (fun ds w1 J F1 R1 H1 o1 s1 i1 k1 gd => ?_) qx
  obtain ⟨xs, e0, hz, rt, Pv, h0, hst, hd⟩ := o1
  subst e0
  intro D hD
  refine ⟨fun i m H' => m = xs.length - i ∧ i ≤ xs.length ∧ ∃ F' R' vs acc w', Same F1 F' ∧ F' D = none ∧ PairS F' no vs acc ∧ acc.length ≤ i ∧ Pv i acc w' ∧ Sep F' R0 w' R' ∧ Ok F' (upd L D (.lst vs)) R' H', ⟨xs.length, by simp, Nat.zero_le _, F1, R1, [], [], w1, Same.refl _, k1.f.free hD, .nil, Nat.le_refl _, h0, i1, k1.newL hD⟩, ?_⟩
  rintro i m H' ⟨rfl, hile, F', R', vs, acc, w', s', hF', rvs, hal, pv, o', k'⟩
  have sL : ∀ o : HO, Same L (upd L D o) := fun o => same_new (k1.l.free hD)
  have sB : Same F1 H' := s'.trans k'.f
  by_cases hlt : i < xs.length
  · have hx : xs[i]? = some xs[i] := List.getElem?_eq_getElem hlt
    have hgd := gd.1 H' sB i (enc xs[i]) (by rw [List.getElem?_map, hx]; rfl)
    obtain ⟨htg, hts⟩ := hst i xs[i] acc w' hx pv
    refine .inr ⟨hgd.1, fun H2 => ∃ F' R' vs acc w', Same F1 F' ∧ F' D = none ∧ PairS F' no vs acc ∧ acc.length ≤ i + 1 ∧ Pv (i + 1) acc w' ∧ Sep F' R0 w' R' ∧ Ok F' (upd L D (.lst vs)) R' H2, fun H2 h => ⟨xs.length - (i + 1), by omega, rfl, hlt, h⟩, ?_⟩
    intro x H2 hy
    obtain ⟨e2, rx⟩ := hgd.2 x H2 hy
    subst e2
    intro s5 H5 C5 cl5 fp5
    have gL : Sg F' (upd L D (.lst vs)) (wipe σ (own.map (·.2))) (wipeR ρ (own.map (·.2))) := ((g.mono (s1.trans s')).wipe (own.map (·.2))).wider (sL _)
    refine htg s5 H5 C5 cl5 fp5 F' _ R' H2 _ x gL k' (rx.mono s') _ fun σ2 g2 w2 => ⟨by rw [w2]; exact wipe_twice _ _, ?_⟩
    intro s7 H7 C7 cl7 fp7
    refine hts s7 H7 C7 cl7 fp7 F' _ R' H2 σ2 g2 o' k' _ fun b w3 F2 R2 H3 ob s2 o2 k2 => ?_
    cases b with
    | true =>
      rw [if_pos rfl]
      intro s6 H6 C6 cl6 fp6
      refine ob.1 rfl s6 H6 C6 cl6 fp6 F2 _ R2 H3 σ2 (g2.mono s2) o2 k2 _ (fun _ _ _ _ => False) takes0 (fun sv w4 y F3 R3 H4 o4 s3 o3 r3 n3 k3 => ?_) (fun _ _ _ _ _ o => o.elim)
      refine ⟨vs, k3.l D _ upd_same, ?_, F3, R3, vs ++ [y], acc ++ [sv], w4, (s'.trans s2).trans s3, ?_, ?_, ?_, o4, o3, ?_⟩
      · rw [pairS_len rvs]
        omega
      · exact none_l k3.fl (show (upd L D (.lst vs)) D = some _ from upd_same)
      · exact pairS_app (.cons ⟨RpS.anyL n3 r3, n3⟩ .nil) (pairS_mono (s2.trans s3) rvs)
      · rw [List.length_append]
        exact Nat.succ_le_succ hal
      · have := k3.setL (o' := .lst (vs ++ [y])) (show (upd L D (.lst vs)) D = some _ from upd_same)
        rw [upd_upd] at this
        exact this
    | false =>
      rw [if_neg Bool.false_ne_true]
      exact ⟨F2, R2, vs, acc, w3, s'.trans s2, none_l k2.fl (show (upd L D (.lst vs)) D = some _ from upd_same), pairS_mono s2 rvs, by omega, ob.2 rfl, o2, k2⟩
  · have ei : i = xs.length := by omega
    subst ei
    refine .inl ⟨?_, ?_⟩
    · have := gd.2 H' sB
      rw [List.length_map] at this
      exact this
    · have hLD : L D = none := k1.l.free hD
      have kz := k'.toR hLD
      have hRD : R' D = none := none_r k'.lr (show (upd L D (.lst vs)) D = some (.lst vs) from upd_same)
      exact q (.raw (.ref D)) (w' ++ [LstS D acc]) (.ref D) F' _ H' (hd acc w' pv D) (s1.trans s') (Sep.new o' hRD ⟨vs, upd_same, rvs⟩) rfl rfl kz
/-- sum(..), with a state -/
theorem es_sum {Y : Wd} {w : Y.W} {O : Sv → Y.W → Prop} {Ox : Str → Y.W → Prop} {p2 : Pos} (hc : X.calm = true) (hm : X.mg "sum" = none) (h : EvS X CA Y ρ w e (fun sv w1 => ∃ ns : List Int, sv = .d (.list (ns.map PyData.int)) ∧ O (.d (.int ns.sum)) w1) Ox) (hg : Gl X "sum" := by rfl) (he : starEach [e] X.env = (false, eval e X.env) :: starEach [] X.env := by rfl) (hpl : (backTo pos (starEach [] X.env)).any (·.1) = false := by rfl) : EvS X CA Y ρ w (.Call (.Name "sum" p2) [e] [] pos) O Ox := fun F L R H σ g i k Q Wx tk q qx =>
  toE (pe_callB (cr_sum hc) hg hm (by decide +kernel) (pa_cons (pe_w e) pa_nil he) (by decide) (by decide) he hpl) (h F L R H σ g i k _ Wx tk (fun sv w1 v F1 R1 H1 o1 s1 i1 r1 n1 k1 => by
    obtain ⟨ns, e1, o⟩ := o1
    subst e1
    cases r1 with
    | lst h1 h2 =>
      rw [h2.ints] at h1
      exact ⟨_, ns, rfl, SqL.of (k1.f _ _ h1), q (.d (.int ns.sum)) w1 _ F1 R1 H1 o s1 i1 (.int _) rfl k1⟩) qx)
end
end G
end

section
set_option Elab.async false
set_option linter.all false
set_option maxRecDepth 100000
set_option maxHeartbeats 4000000
/-! ### packings, plain -/
namespace Pk
open Sh
abbrev Cell := Nat × Nat
/-- a spot: row, column, turn, cells -/
structure Spot where
  row : Nat
  col : Nat
  turn : Nat
  some : List Cell
def cellsAt (m : Mx) (t r c : Nat) : List Cell := (Mx.turnN (t % 4) m).cells.map fun p => (r + p.1, c + p.2)
def inB (R C : Nat) (p : Cell) : Bool := decide (p.1 < R) && decide (p.2 < C)
def fitsAt (m : Mx) (R C t r c : Nat) : Bool := (cellsAt m t r c).all (inB R C)
def spotsT (m : Mx) (R C r c : Nat) (ts : List Nat) : List Spot := (ts.filter fun t => fitsAt m R C t r c).map fun t => ⟨r, c, t, cellsAt m t r c⟩
def spotsC (m : Mx) (R C : Nat) (ts : List Nat) (r n : Nat) : List Spot := (List.range n).flatMap fun c => spotsT m R C r c ts
def spotsR (m : Mx) (R C : Nat) (ts : List Nat) (n : Nat) : List Spot := (List.range n).flatMap fun r => spotsC m R C ts r C
def spots (m : Mx) (R C : Nat) (ts : List Nat) : List Spot := spotsR m R C ts R
/-- how many ways -/
def free (taken : List Cell) (some : List Cell) : Bool := !some.any fun x => decide (x ∈ taken)
def ways : List (List Spot) → List Cell → Nat
  | [], _ => 1
  | S :: rest, taken => (S.map fun s => if free taken s.some then ways rest (taken ++ s.some) else 0).sum
def firstSome {α β : Type} (f : α → Option β) : List α → Option β
  | [] => none
  | x :: r => match f x with
    | some y => some y
    | none => firstSome f r
def laid : List (List Spot) → List Cell → Option (List Spot)
  | [], _ => some []
  | S :: rest, taken => firstSome (fun s => if free taken s.some then (laid rest (taken ++ s.some)).map (s :: ·) else none) S
theorem spotsT_len (m : Mx) (R C r c : Nat) (ts : List Nat) : (spotsT m R C r c ts).length ≤ ts.length := by
  unfold spotsT
  rw [List.length_map]
  exact List.length_filter_le _ _
theorem spotsC_succ (m : Mx) (R C : Nat) (ts : List Nat) (r n : Nat) : spotsC m R C ts r (n + 1) = spotsC m R C ts r n ++ spotsT m R C r n ts := by
  simp [spotsC, List.range_succ]
theorem spotsR_succ (m : Mx) (R C : Nat) (ts : List Nat) (n : Nat) : spotsR m R C ts (n + 1) = spotsR m R C ts n ++ spotsC m R C ts n C := by
  simp [spotsR, List.range_succ]
theorem spotsC_len (m : Mx) (R C : Nat) (ts : List Nat) (r : Nat) : ∀ n, (spotsC m R C ts r n).length ≤ n * ts.length
  | 0 => by simp [spotsC]
  | n + 1 => by
    have := spotsC_len m R C ts r n
    have h := spotsT_len m R C r n ts
    rw [spotsC_succ, List.length_append, Nat.add_mul]
    omega
theorem spotsR_len (m : Mx) (R C : Nat) (ts : List Nat) : ∀ n, (spotsR m R C ts n).length ≤ n * (C * ts.length)
  | 0 => by simp [spotsR]
  | n + 1 => by
    have := spotsR_len m R C ts n
    have h := spotsC_len m R C ts n C
    rw [spotsR_succ, List.length_append, Nat.add_mul]
    omega
theorem spotsT_take (m : Mx) (R C r c : Nat) (ts : List Nat) (i : Nat) (t : Nat) (h : ts[i]? = some t) : spotsT m R C r c (ts.take (i + 1)) = spotsT m R C r c (ts.take i) ++ (if fitsAt m R C t r c then [⟨r, c, t, cellsAt m t r c⟩] else []) := by
  obtain ⟨hi, rfl⟩ := List.getElem?_eq_some_iff.mp h
  unfold spotsT
  rw [List.take_succ_eq_append_getElem hi, List.filter_append, List.map_append]
  congr 1
  by_cases hf : fitsAt m R C ts[i] r c = true
  · rw [if_pos hf, List.filter_cons_of_pos (by exact hf)]
    rfl
  · rw [if_neg hf, List.filter_cons_of_neg (by exact hf)]
    rfl
theorem firstSome_at {α β : Type} (f : α → Option β) : ∀ {l : List α} {i : Nat} {x : α} {y : β}, (∀ z ∈ l.take i, f z = none) → l[i]? = some x → f x = some y → firstSome f l = some y
  | [], i, x, y, _, h, _ => by simp at h
  | a :: l, 0, x, y, _, h, e => by
    simp at h
    subst h
    simp [firstSome, e]
  | a :: l, i + 1, x, y, hn, h, e => by
    have h1 : f a = none := hn a (by simp)
    have := firstSome_at f (l := l) (i := i) (fun z hz => hn z (by rw [List.take_succ_cons]; exact List.mem_cons_of_mem _ hz)) (by simpa using h) e
    simp [firstSome, h1, this]
theorem firstSome_no {α β : Type} (f : α → Option β) : ∀ {l : List α}, (∀ z ∈ l, f z = none) → firstSome f l = none
  | [], _ => rfl
  | a :: l, h => by
    have := firstSome_no f (l := l) fun z hz => h z (List.mem_cons_of_mem _ hz)
    simp [firstSome, h a List.mem_cons_self, this]
theorem firstSome_some {α β : Type} (f : α → Option β) : ∀ {l : List α} {y : β}, firstSome f l = some y → ∃ x ∈ l, f x = some y
  | [], y, h => by cases h
  | a :: l, y, h => by
    unfold firstSome at h
    cases e : f a with
    | some z =>
      rw [e] at h
      exact ⟨a, List.mem_cons_self, by rw [e]; exact h⟩
    | none =>
      rw [e] at h
      obtain ⟨x, hx, e2⟩ := firstSome_some f h
      exact ⟨x, List.mem_cons_of_mem _ hx, e2⟩
theorem laid_len : ∀ (E : List (List Spot)) (taken : List Cell) (l : List Spot), laid E taken = some l → l.length = E.length
  | [], _, l, h => by
    cases h
    rfl
  | S :: E, taken, l, h => by
    obtain ⟨x, hx, e⟩ := firstSome_some _ h
    split at e
    · obtain ⟨l', e1, e2⟩ := Option.map_eq_some_iff.mp e
      rw [← e2, List.length_cons, List.length_cons, laid_len E _ l' e1]
    · cases e
end Pk
end

section
set_option Elab.async false
set_option linter.all false
set_option maxRecDepth 100000
set_option maxHeartbeats 4000000
/-! ### packings: laws of counting -/
namespace Pk
open Sh
theorem free_iff {t s : List Cell} : free t s = true ↔ ∀ c ∈ s, c ∉ t := by
  unfold free
  simp only [Bool.not_eq_true', List.any_eq_false, decide_eq_true_eq]
theorem bool_iff {a b : Bool} (h : a = true ↔ b = true) : a = b := by
  cases a <;> cases b <;> simp_all
theorem free_congr {t t' s s' : List Cell} (h : ∀ c, c ∈ t ↔ c ∈ t') (h' : ∀ c, c ∈ s ↔ c ∈ s') : free t s = free t' s' := bool_iff (by
  rw [free_iff, free_iff]
  constructor
  · exact fun z c hc hm => z c ((h' c).mpr hc) ((h c).mpr hm)
  · exact fun z c hc hm => z c ((h' c).mp hc) ((h c).mp hm))
theorem ways_congr : ∀ (E : List (List Spot)) {t t' : List Cell}, (∀ c, c ∈ t ↔ c ∈ t') → ways E t = ways E t'
  | [], _, _, _ => rfl
  | S :: E, t, t', h => by
    show (S.map _).sum = (S.map _).sum
    congr 1
    refine List.map_congr_left fun s _ => ?_
    rw [free_congr h fun _ => Iff.rfl, ways_congr E (t := t ++ s.some) (t' := t' ++ s.some) fun c => by rw [List.mem_append, List.mem_append, h c]]
theorem sum_add {α : Type} (f g : α → Nat) : ∀ l : List α, (l.map fun x => f x + g x).sum = (l.map f).sum + (l.map g).sum
  | [] => rfl
  | x :: l => by
    rw [List.map_cons, List.sum_cons, List.map_cons, List.sum_cons, List.map_cons, List.sum_cons, sum_add f g l]
    omega
theorem sum_zero {α : Type} : ∀ l : List α, (l.map fun _ => 0).sum = 0
  | [] => rfl
  | x :: l => by rw [List.map_cons, List.sum_cons, sum_zero l]
theorem sum_swap {α β : Type} (f : α → β → Nat) (B : List β) : ∀ A : List α, (A.map fun a => (B.map fun b => f a b).sum).sum = (B.map fun b => (A.map fun a => f a b).sum).sum
  | [] => (sum_zero B).symm
  | a :: A => by
    rw [List.map_cons, List.sum_cons, sum_swap f B A, ← sum_add]
    rfl
theorem sum_ite {α : Type} (p : Bool) (f : α → Nat) (l : List α) : (if p = true then (l.map f).sum else 0) = (l.map fun x => if p = true then f x else 0).sum := by
  cases p
  · exact (sum_zero l).symm
  · rfl
theorem ways_two (A B : List Spot) (E : List (List Spot)) (t : List Cell) : ways (A :: B :: E) t = (A.map fun a => (B.map fun b => if free t a.some && free (t ++ a.some) b.some then ways E (t ++ a.some ++ b.some) else 0).sum).sum := by
  show (A.map fun a => if free t a.some = true then (B.map fun b => if free (t ++ a.some) b.some = true then ways E (t ++ a.some ++ b.some) else 0).sum else 0).sum = _
  congr 1
  refine List.map_congr_left fun a _ => ?_
  rw [sum_ite]
  congr 1
  refine List.map_congr_left fun b _ => ?_
  cases free t a.some <;> cases free (t ++ a.some) b.some <;> rfl
theorem free_swap (t a b : List Cell) : (free t a && free (t ++ a) b) = (free t b && free (t ++ b) a) := bool_iff (by
  simp only [Bool.and_eq_true, free_iff, List.mem_append, not_or]
  constructor
  · rintro ⟨h1, h2⟩
    exact ⟨fun c hc => (h2 c hc).1, fun c hc => ⟨h1 c hc, fun hb => (h2 c hb).2 hc⟩⟩
  · rintro ⟨h1, h2⟩
    exact ⟨fun c hc => (h2 c hc).1, fun c hc => ⟨h1 c hc, fun hb => (h2 c hb).2 hc⟩⟩)
theorem ways_swap (A B : List Spot) (E : List (List Spot)) (t : List Cell) : ways (A :: B :: E) t = ways (B :: A :: E) t := by
  rw [ways_two, ways_two, sum_swap]
  congr 1
  refine List.map_congr_left fun b _ => ?_
  congr 1
  refine List.map_congr_left fun a _ => ?_
  rw [free_swap, ways_congr E (t := t ++ a.some ++ b.some) (t' := t ++ b.some ++ a.some) fun c => by
    simp only [List.mem_append]
    constructor <;> (rintro ((h | h) | h) <;> simp [h])]
theorem ways_perm {E E' : List (List Spot)} (h : E.Perm E') : ∀ t, ways E t = ways E' t := by
  induction h with
  | nil => exact fun _ => rfl
  | cons S _ ih =>
    intro t
    show (S.map _).sum = (S.map _).sum
    congr 1
    refine List.map_congr_left fun s _ => ?_
    rw [ih]
  | swap A B E => exact fun t => ways_swap _ _ _ _
  | trans _ _ h1 h2 => exact fun t => (h1 t).trans (h2 t)
theorem ways_rev (E : List (List Spot)) (t : List Cell) : ways E.reverse t = ways E t := ways_perm (List.reverse_perm E) t
/-! more spots, more ways -/
theorem sum_mono {α : Type} (f g : α → Nat) : ∀ {l : List α}, (∀ x ∈ l, f x ≤ g x) → (l.map f).sum ≤ (l.map g).sum
  | [], _ => Nat.le_refl _
  | x :: l, h => by
    rw [List.map_cons, List.sum_cons, List.map_cons, List.sum_cons]
    exact Nat.add_le_add (h x List.mem_cons_self) (sum_mono f g fun y hy => h y (List.mem_cons_of_mem _ hy))
theorem sum_sub {α : Type} (f : α → Nat) {l l' : List α} (h : l.Sublist l') : (l.map f).sum ≤ (l'.map f).sum := by
  induction h with
  | slnil => exact Nat.le_refl _
  | cons a _ ih =>
    rw [List.map_cons, List.sum_cons]
    omega
  | cons_cons a _ ih =>
    rw [List.map_cons, List.sum_cons, List.map_cons, List.sum_cons]
    omega
theorem ways_mono {α : Type} (f g : α → List Spot) : ∀ {l : List α}, (∀ x ∈ l, (f x).Sublist (g x)) → ∀ t, ways (l.map f) t ≤ ways (l.map g) t
  | [], _, t => Nat.le_refl _
  | x :: l, h, t => by
    show ((f x).map _).sum ≤ ((g x).map _).sum
    refine Nat.le_trans (sum_mono _ (fun s => if free t s.some = true then ways (l.map g) (t ++ s.some) else 0) fun s _ => ?_) (sum_sub _ (h x List.mem_cons_self))
    show (if _ then _ else _) ≤ (if _ then _ else _)
    split
    · exact ways_mono f g (fun y hy => h y (List.mem_cons_of_mem _ hy)) _
    · exact Nat.le_refl _
theorem flat_sub {α β : Type} (f g : α → List β) : ∀ {l : List α}, (∀ x ∈ l, (f x).Sublist (g x)) → (l.flatMap f).Sublist (l.flatMap g)
  | [], _ => List.Sublist.refl _
  | x :: l, h => by
    rw [List.flatMap_cons, List.flatMap_cons]
    exact List.Sublist.append (h x List.mem_cons_self) (flat_sub f g fun y hy => h y (List.mem_cons_of_mem _ hy))
theorem flat_subL {α β : Type} (f : α → List β) {l l' : List α} (h : l.Sublist l') : (l.flatMap f).Sublist (l'.flatMap f) := by
  induction h with
  | slnil => exact List.Sublist.refl _
  | cons a _ ih =>
    rw [List.flatMap_cons]
    exact ih.trans (List.sublist_append_right _ _)
  | cons_cons a _ ih =>
    rw [List.flatMap_cons, List.flatMap_cons]
    exact List.Sublist.append (List.Sublist.refl _) ih
theorem filter_sub {α : Type} (p q : α → Bool) : ∀ {l : List α}, (∀ x ∈ l, p x = true → q x = true) → (l.filter p).Sublist (l.filter q)
  | [], _ => List.Sublist.refl _
  | x :: l, h => by
    have ih := filter_sub p q (l := l) fun y hy => h y (List.mem_cons_of_mem _ hy)
    rw [List.filter_cons, List.filter_cons]
    by_cases hp : p x = true
    · rw [if_pos hp, if_pos (h x List.mem_cons_self hp)]
      exact ih.cons_cons x
    · rw [if_neg hp]
      split
      · exact ih.cons x
      · exact ih
theorem spots_ts (m : Mx) (R C : Nat) {ts ts' : List Nat} (h : ts.Sublist ts') : (spots m R C ts).Sublist (spots m R C ts') :=
  flat_sub _ _ fun r _ => flat_sub _ _ fun c _ => (h.filter _).map _
theorem spots_rows (m : Mx) (R C : Nat) (ts : List Nat) : (spots m R C ts).Sublist (spots m (R + 1) C ts) := by
  refine List.Sublist.trans (flat_sub _ (fun r => spotsC m (R + 1) C ts r C) fun r _ => flat_sub _ _ fun c _ => (filter_sub _ _ fun u _ hu => ?_).map _) (flat_subL _ ?_)
  · unfold fitsAt at hu ⊢
    rw [List.all_eq_true] at hu ⊢
    intro p hp
    have := hu p hp
    simp only [inB, Bool.and_eq_true, decide_eq_true_eq] at this ⊢
    omega
  · rw [List.range_succ]
    exact List.sublist_append_left _ _
/-! first way, or none -/
theorem sum_pos {α : Type} (f : α → Nat) : ∀ {l : List α}, (l.map f).sum = 0 ↔ ∀ x ∈ l, f x = 0
  | [] => by simp
  | x :: l => by
    rw [List.map_cons, List.sum_cons]
    have ih := sum_pos f (l := l)
    rw [Nat.add_eq_zero_iff, ih]
    simp only [List.mem_cons, forall_eq_or_imp]
theorem firstSome_none {α β : Type} (f : α → Option β) {l : List α} : firstSome f l = none ↔ ∀ x ∈ l, f x = none := by
  constructor
  · intro h x hx
    cases e : f x with
    | none => rfl
    | some y =>
      exfalso
      induction l with
      | nil => cases hx
      | cons a l ih =>
        unfold firstSome at h
        cases ea : f a with
        | some z =>
          rw [ea] at h
          cases h
        | none =>
          rw [ea] at h
          rcases List.mem_cons.mp hx with rfl | hx
          · rw [ea] at e
            cases e
          · exact ih h hx
  · exact firstSome_no f
theorem laid_none : ∀ (E : List (List Spot)) (t : List Cell), laid E t = none ↔ ways E t = 0
  | [], t => by
    constructor
    · intro h
      cases h
    · intro h
      cases h
  | S :: E, t => by
    show firstSome _ S = none ↔ (S.map _).sum = 0
    rw [firstSome_none, sum_pos]
    refine forall_congr' fun s => forall_congr' fun _ => ?_
    split
    · rw [Option.map_eq_none_iff]
      exact laid_none E _
    · exact ⟨fun _ => rfl, fun _ => rfl⟩
end Pk
end

section
set_option Elab.async false
set_option linter.all false
set_option maxRecDepth 100000
set_option maxHeartbeats 4000000
/-! ### packings: areas, falling products, quarter turns -/
namespace Pk
open Sh
theorem nodup_le {α : Type} [DecidableEq α] : ∀ {l m : List α}, l.Nodup → (∀ x ∈ l, x ∈ m) → l.length ≤ m.length
  | [], _, _, _ => Nat.zero_le _
  | a :: l, m, h, hs => by
    have h1 := List.nodup_cons.mp h
    have ha : a ∈ m := hs a List.mem_cons_self
    have := nodup_le (m := m.erase a) h1.2 fun x hx => (List.mem_erase_of_ne (fun e : x = a => h1.1 (by rw [← e]; exact hx))).mpr (hs x (List.mem_cons_of_mem _ hx))
    rw [List.length_erase_of_mem ha] at this
    have := List.length_pos_of_mem ha
    rw [List.length_cons]
    omega
def box (R C : Nat) : List Cell := (List.range R).flatMap fun i => (List.range C).map fun j => (i, j)
theorem mem_box {R C : Nat} {c : Cell} : c ∈ box R C ↔ c.1 < R ∧ c.2 < C := by
  unfold box
  constructor
  · intro h
    obtain ⟨i, hi, h⟩ := List.mem_flatMap.mp h
    obtain ⟨j, hj, rfl⟩ := List.mem_map.mp h
    exact ⟨List.mem_range.mp hi, List.mem_range.mp hj⟩
  · intro ⟨h1, h2⟩
    exact List.mem_flatMap.mpr ⟨c.1, List.mem_range.mpr h1, List.mem_map.mpr ⟨c.2, List.mem_range.mpr h2, rfl⟩⟩
theorem box_len : ∀ R C : Nat, (box R C).length = R * C
  | 0, C => by simp [box]
  | R + 1, C => by
    have := box_len R C
    unfold box at this ⊢
    rw [List.range_succ, List.flatMap_append, List.length_append, this, Nat.add_mul]
    simp
theorem box_nodup (R C : Nat) : (box R C).Nodup := by
  unfold box List.Nodup
  rw [List.pairwise_flatMap]
  refine ⟨fun i _ => List.Pairwise.map _ (fun a b hab e => hab (congrArg Prod.snd e)) List.nodup_range, List.Pairwise.imp (fun {i i'} h x hx y hy e => ?_) (List.nodup_range (n := R))⟩
  obtain ⟨j, _, rfl⟩ := List.mem_map.mp hx
  obtain ⟨j', _, rfl⟩ := List.mem_map.mp hy
  exact h (congrArg Prod.fst e)
theorem area_le {α : Type} (R C : Nat) (f : α → List Spot) (size : α → Nat) : ∀ {l : List α}, (∀ x ∈ l, ∀ s ∈ f x, s.some.length = size x ∧ s.some.Nodup ∧ ∀ c ∈ s.some, c ∈ box R C) → ∀ {t : List Cell}, t.Nodup → (∀ c ∈ t, c ∈ box R C) → ways (l.map f) t ≠ 0 → t.length + (l.map size).sum ≤ R * C
  | [], _, t, hn, hb, _ => by
    have := nodup_le hn hb
    rw [box_len] at this
    simpa using this
  | x :: l, h, t, hn, hb, hw => by
    by_cases hz : ∀ s ∈ f x, (if free t s.some = true then ways (l.map f) (t ++ s.some) else 0) = 0
    · exact absurd ((sum_pos _).mpr hz) hw
    · have : ∃ s ∈ f x, (if free t s.some = true then ways (l.map f) (t ++ s.some) else 0) ≠ 0 := by
        false_or_by_contra
        rename_i hc
        refine hz fun s hs => ?_
        false_or_by_contra
        rename_i hne
        exact hc ⟨s, hs, hne⟩
      obtain ⟨s, hs, hne⟩ := this
      obtain ⟨h1, h2, h3⟩ := h x List.mem_cons_self s hs
      by_cases hf : free t s.some = true
      · rw [if_pos hf] at hne
        have hf' := free_iff.mp hf
        have := area_le R C f size (fun y hy => h y (List.mem_cons_of_mem _ hy)) (t := t ++ s.some) (List.nodup_append.mpr ⟨hn, h2, fun a ha b hb e => hf' b hb (e ▸ ha)⟩) (fun c hc => (List.mem_append.mp hc).elim (hb c) (h3 c)) hne
        rw [List.length_append, h1] at this
        rw [List.map_cons, List.sum_cons]
        omega
      · rw [if_neg hf] at hne
        exact absurd rfl hne
/-! single cells -/
def desc : Nat → Nat → Nat
  | _, 0 => 1
  | n, k + 1 => n * desc (n - 1) k
theorem filter_two {α : Type} (p : α → Bool) : ∀ l : List α, (l.filter p).length + (l.filter fun x => !p x).length = l.length
  | [] => rfl
  | x :: l => by
    have ih := filter_two p l
    rw [List.filter_cons, List.filter_cons]
    cases p x <;> simp <;> omega
theorem left_len {R C : Nat} {t : List Cell} (hn : t.Nodup) (hb : ∀ c ∈ t, c ∈ box R C) : ((box R C).filter fun c => !decide (c ∈ t)).length = R * C - t.length := by
  have h := filter_two (fun c => decide (c ∈ t)) (box R C)
  have hp : ((box R C).filter fun c => decide (c ∈ t)).Perm t := (List.perm_ext_iff_of_nodup ((box_nodup R C).filter _) hn).mpr fun c => by
    rw [List.mem_filter, decide_eq_true_eq]
    exact ⟨fun z => z.2, fun z => ⟨hb c z, z⟩⟩
  rw [hp.length_eq, box_len] at h
  omega
theorem sum_const {α : Type} (p : α → Bool) (k : Nat) : ∀ l : List α, (l.map fun x => if p x = true then k else 0).sum = (l.filter p).length * k
  | [] => by simp
  | x :: l => by
    rw [List.map_cons, List.sum_cons, sum_const p k l, List.filter_cons]
    cases p x
    · simp
    · simp [Nat.add_mul]
      omega
theorem falls {R C : Nat} {S : List Spot} (hS : S.map (·.some) = (box R C).map fun c => [c]) : ∀ (k : Nat) {t : List Cell}, t.Nodup → (∀ c ∈ t, c ∈ box R C) → ways (List.replicate k S) t = desc (R * C - t.length) k
  | 0, _, _, _ => rfl
  | k + 1, t, hn, hb => by
    rw [List.replicate_succ]
    show (S.map fun s => if free t s.some = true then ways (List.replicate k S) (t ++ s.some) else 0).sum = _
    have e : (S.map fun s => if free t s.some = true then ways (List.replicate k S) (t ++ s.some) else 0) = (box R C).map fun c => if free t [c] = true then ways (List.replicate k S) (t ++ [c]) else 0 := by
      have := congrArg (List.map fun l => if free t l = true then ways (List.replicate k S) (t ++ l) else 0) hS
      rw [List.map_map, List.map_map] at this
      exact this
    rw [e]
    have e2 : ((box R C).map fun c => if free t [c] = true then ways (List.replicate k S) (t ++ [c]) else 0) = (box R C).map fun c => if (!decide (c ∈ t)) = true then desc (R * C - t.length - 1) k else 0 := List.map_congr_left fun c hc => by
      have : free t [c] = !decide (c ∈ t) := by simp [free]
      rw [this]
      by_cases hm : c ∈ t
      · simp [hm]
      · rw [if_pos (by simpa using hm), if_pos (by simpa using hm), falls hS k (t := t ++ [c]) (List.nodup_append.mpr ⟨hn, by simp, fun a ha b hb e => hm (by simp at hb; rw [← hb, ← e]; exact ha)⟩) (fun x hx => (List.mem_append.mp hx).elim (hb x) fun z => (by simp at z; rw [z]; exact hc))]
        rw [List.length_append, Nat.sub_add_eq]
        rfl
    rw [e2, sum_const, left_len hn hb]
    rfl
theorem desc_succ : ∀ (k n : Nat), desc n (k + 1) = desc n k * (n - k)
  | 0, n => by simp [desc]
  | k + 1, n => by
    show n * desc (n - 1) (k + 1) = n * desc (n - 1) k * (n - (k + 1))
    rw [desc_succ k (n - 1), Nat.mul_assoc, Nat.sub_sub, Nat.add_comm 1 k]
theorem desc_zero : ∀ (k n : Nat), n < k → desc n k = 0
  | 0, n, h => by omega
  | k + 1, n, h => by
    show n * desc (n - 1) k = 0
    cases n with
    | zero => simp
    | succ n => rw [desc_zero k (n + 1 - 1) (by omega), Nat.mul_zero]
def fallI (n : Nat) : Nat → Int
  | 0 => 1
  | k + 1 => fallI n k * ((n : Int) - (k : Int))
theorem desc_int (n : Nat) : ∀ k : Nat, ((desc n k : Nat) : Int) = fallI n k
  | 0 => rfl
  | k + 1 => by
    rw [desc_succ, Int.natCast_mul, desc_int n k]
    show _ = fallI n k * ((n : Int) - (k : Int))
    by_cases h : k ≤ n
    · rw [Int.ofNat_sub h]
    · rw [← desc_int n k, desc_zero k n (by omega)]
      simp
/-! quarter turns -/
theorem sum_perm {l l' : List Nat} (h : l.Perm l') : l.sum = l'.sum := by
  induction h with
  | nil => rfl
  | cons x _ ih => rw [List.sum_cons, List.sum_cons, ih]
  | swap x y l =>
    rw [List.sum_cons, List.sum_cons, List.sum_cons, List.sum_cons]
    omega
  | trans _ _ h1 h2 => exact h1.trans h2
theorem ways_rot {α : Type} (φ : Cell → Cell) (D : Cell → Prop) (inj : ∀ a b, D a → D b → φ a = φ b → a = b) (f f' : α → List Spot) : ∀ {l : List α}, (∀ x ∈ l, ∃ g : Spot → Spot, ((f x).map g).Perm (f' x) ∧ ∀ s ∈ f x, (∀ c ∈ s.some, D c) ∧ ∀ c, c ∈ (g s).some ↔ ∃ a ∈ s.some, φ a = c) →
    ∀ {t t' : List Cell}, (∀ c ∈ t, D c) → (∀ c, c ∈ t' ↔ ∃ a ∈ t, φ a = c) → ways (l.map f) t = ways (l.map f') t'
  | [], _, _, _, _, _ => rfl
  | x :: l, h, t, t', hD, ht => by
    obtain ⟨g, hp, hg⟩ := h x List.mem_cons_self
    show ((f x).map fun s => if free t s.some = true then ways (l.map f) (t ++ s.some) else 0).sum = ((f' x).map fun s => if free t' s.some = true then ways (l.map f') (t' ++ s.some) else 0).sum
    rw [← sum_perm (hp.map _), List.map_map]
    congr 1
    refine List.map_congr_left fun s hs => ?_
    obtain ⟨h1, h2⟩ := hg s hs
    have ef : free t s.some = free t' (g s).some := bool_iff (by
      rw [free_iff, free_iff]
      constructor
      · intro z c hc hm
        obtain ⟨a, ha, rfl⟩ := (h2 c).mp hc
        obtain ⟨b, hb, e⟩ := (ht _).mp hm
        rw [inj b a (hD b hb) (h1 a ha) e] at hb
        exact z a ha hb
      · intro z c hc hm
        exact z (φ c) ((h2 _).mpr ⟨c, hc, rfl⟩) ((ht _).mpr ⟨c, hm, rfl⟩))
    show (if free t s.some = true then _ else _) = (if free t' (g s).some = true then _ else _)
    rw [ef]
    rw [ways_rot φ D inj f f' (fun y hy => h y (List.mem_cons_of_mem _ hy)) (t := t ++ s.some) (t' := t' ++ (g s).some) (fun c hc => (List.mem_append.mp hc).elim (hD c) (h1 c)) (fun c => by
      rw [List.mem_append, ht c, h2 c]
      constructor
      · rintro (⟨a, ha, e⟩ | ⟨a, ha, e⟩)
        · exact ⟨a, List.mem_append_left _ ha, e⟩
        · exact ⟨a, List.mem_append_right _ ha, e⟩
      · rintro ⟨a, ha, e⟩
        rcases List.mem_append.mp ha with ha | ha
        · exact .inl ⟨a, ha, e⟩
        · exact .inr ⟨a, ha, e⟩)]
theorem mem_spots {m : Mx} {R C : Nat} {ts : List Nat} {s : Spot} : s ∈ spots m R C ts ↔ s.row < R ∧ s.col < C ∧ s.turn ∈ ts ∧ s.some = cellsAt m s.turn s.row s.col ∧ fitsAt m R C s.turn s.row s.col = true := by
  unfold spots spotsR spotsC spotsT
  constructor
  · intro h
    obtain ⟨r, hr, h⟩ := List.mem_flatMap.mp h
    obtain ⟨c, hc, h⟩ := List.mem_flatMap.mp h
    obtain ⟨u, hu, rfl⟩ := List.mem_map.mp h
    obtain ⟨hu, hf⟩ := List.mem_filter.mp hu
    exact ⟨List.mem_range.mp hr, List.mem_range.mp hc, hu, rfl, hf⟩
  · rintro ⟨h1, h2, h3, h4, h5⟩
    obtain ⟨r, c, u, l⟩ := s
    have h4 : l = cellsAt m u r c := h4
    subst h4
    exact List.mem_flatMap.mpr ⟨r, List.mem_range.mpr h1, List.mem_flatMap.mpr ⟨c, List.mem_range.mpr h2, List.mem_map.mpr ⟨u, List.mem_filter.mpr ⟨h3, h5⟩, rfl⟩⟩⟩
theorem spots_nodup {m : Mx} {R C : Nat} {ts : List Nat} (h : ts.Nodup) : (spots m R C ts).Nodup := by
  unfold spots spotsR spotsC spotsT List.Nodup
  rw [List.pairwise_flatMap]
  refine ⟨fun r _ => ?_, List.Pairwise.imp (fun {i i'} hne x hx y hy e => ?_) (List.nodup_range (n := R))⟩
  · rw [List.pairwise_flatMap]
    refine ⟨fun c _ => List.Pairwise.map _ (fun a b hab e => hab (congrArg Spot.turn e)) (h.filter _), List.Pairwise.imp (fun {i i'} hne x hx y hy e => ?_) (List.nodup_range (n := C))⟩
    obtain ⟨_, _, rfl⟩ := List.mem_map.mp hx
    obtain ⟨_, _, rfl⟩ := List.mem_map.mp hy
    exact hne (congrArg Spot.col e)
  · obtain ⟨_, _, hx⟩ := List.mem_flatMap.mp hx
    obtain ⟨_, _, hy⟩ := List.mem_flatMap.mp hy
    obtain ⟨_, _, rfl⟩ := List.mem_map.mp hx
    obtain ⟨_, _, rfl⟩ := List.mem_map.mp hy
    exact hne (congrArg Spot.row e)
theorem fits_iff {m : Mx} (g : m.Good) {R C u r c : Nat} : fitsAt m R C u r c = true ↔ r + (Mx.turnN (u % 4) m).h ≤ R ∧ c + (Mx.turnN (u % 4) m).w ≤ C := by
  have g' := g.turnN (u % 4)
  generalize hL : Mx.turnN (u % 4) m = L at g' ⊢
  unfold fitsAt cellsAt
  rw [hL, List.all_eq_true]
  have h1 := g'.h1
  have w1 := g'.w1
  constructor
  · intro h
    obtain ⟨c0, hc0, hf0⟩ := g'.bot
    obtain ⟨r0, hr0, hf1⟩ := g'.rig
    have z1 := h (r + (L.h - 1), c + c0) (List.mem_map.mpr ⟨(L.h - 1, c0), Mx.mem_cells.mpr ⟨by show L.h - 1 < L.h; omega, hc0, hf0⟩, rfl⟩)
    have z2 := h (r + r0, c + (L.w - 1)) (List.mem_map.mpr ⟨(r0, L.w - 1), Mx.mem_cells.mpr ⟨hr0, by show L.w - 1 < L.w; omega, hf1⟩, rfl⟩)
    simp only [inB, Bool.and_eq_true, decide_eq_true_eq] at z1 z2
    omega
  · rintro ⟨h2, h3⟩ p hp
    obtain ⟨q, hq, rfl⟩ := List.mem_map.mp hp
    obtain ⟨q1, q2, _⟩ := Mx.mem_cells.mp hq
    simp only [inB, Bool.and_eq_true, decide_eq_true_eq]
    omega
theorem rot_spots {m m' : Mx} (g : m.Good) (g' : m'.Good) {R C : Nat} {ts ts' : List Nat} (nd : ts.Nodup) (nd' : ts'.Nodup) (τ : Nat → Nat) (h1 : ∀ u ∈ ts, τ u ∈ ts' ∧ (Mx.turnN (τ u % 4) m').cells = (Mx.turnN (u % 4) m).turn.cells) (h2 : ∀ u ∈ ts, ∀ v ∈ ts, τ u = τ v → u = v) (h3 : ∀ v ∈ ts', ∃ u ∈ ts, τ u = v) :
    ∃ gg : Spot → Spot, ((spots m R C ts).map gg).Perm (spots m' C R ts') ∧ ∀ s ∈ spots m R C ts, (∀ c ∈ s.some, c.1 < R) ∧ ∀ c, c ∈ (gg s).some ↔ ∃ a ∈ s.some, (fun p : Cell => (p.2, R - 1 - p.1)) a = c := by
  have hdim : ∀ u ∈ ts, (Mx.turnN (τ u % 4) m').h = (Mx.turnN (u % 4) m).w ∧ (Mx.turnN (τ u % 4) m').w = (Mx.turnN (u % 4) m).h := fun u hu => by
    have := (Mx.cells_eq_iff (g'.turnN _) (g.turnN (u % 4)).turn).mp (h1 u hu).2
    exact ⟨this.1, this.2.1⟩
  let gg : Spot → Spot := fun s => ⟨s.col, R - s.row - (Mx.turnN (s.turn % 4) m).h, τ s.turn, cellsAt m' (τ s.turn) s.col (R - s.row - (Mx.turnN (s.turn % 4) m).h)⟩
  refine ⟨gg, (List.perm_ext_iff_of_nodup ?_ (spots_nodup nd')).mpr fun x => ?_, fun s hs => ?_⟩
  · unfold List.Nodup
    rw [List.pairwise_map]
    refine List.Pairwise.imp_of_mem (fun {a b} ha hb hne e => hne ?_) (spots_nodup nd)
    obtain ⟨a1, a2, a3, a4, a5⟩ := mem_spots.mp ha
    obtain ⟨b1, b2, b3, b4, b5⟩ := mem_spots.mp hb
    have e1 : a.col = b.col := congrArg Spot.row e
    have e2 : R - a.row - (Mx.turnN (a.turn % 4) m).h = R - b.row - (Mx.turnN (b.turn % 4) m).h := congrArg Spot.col e
    have e3 : a.turn = b.turn := h2 _ a3 _ b3 (congrArg Spot.turn e)
    have f1 := (fits_iff g).mp a5
    have f2 := (fits_iff g).mp b5
    rw [e3] at e2 f1
    have e4 : a.row = b.row := by omega
    obtain ⟨r, c, u, l⟩ := a
    obtain ⟨r', c', u', l'⟩ := b
    dsimp only at e1 e3 e4 a4 b4
    subst e1 e3 e4 a4 b4
    rfl
  · constructor
    · intro hx
      obtain ⟨s, hs, rfl⟩ := List.mem_map.mp hx
      obtain ⟨a1, a2, a3, a4, a5⟩ := mem_spots.mp hs
      have f1 := (fits_iff g).mp a5
      have k1 := (g.turnN (s.turn % 4)).h1
      have d := hdim s.turn a3
      refine mem_spots.mpr ⟨a2, ?_, (h1 _ a3).1, rfl, (fits_iff g').mpr ?_⟩
      · show R - s.row - _ < R
        omega
      · show s.col + _ ≤ C ∧ R - s.row - _ + _ ≤ R
        rw [d.1, d.2]
        omega
    · intro hx
      obtain ⟨b1, b2, b3, b4, b5⟩ := mem_spots.mp hx
      obtain ⟨u, hu, e⟩ := h3 _ b3
      have f2 := (fits_iff g').mp b5
      have d := hdim u hu
      rw [← e, d.1, d.2] at f2
      have k1 := (g.turnN (u % 4)).h1
      have k2 := (g.turnN (u % 4)).w1
      obtain ⟨r, c, v, l⟩ := x
      dsimp only at b1 b2 b3 b4 e f2
      subst e b4
      refine List.mem_map.mpr ⟨⟨R - c - (Mx.turnN (u % 4) m).h, r, u, cellsAt m u (R - c - (Mx.turnN (u % 4) m).h) r⟩, mem_spots.mpr ⟨?_, b1, hu, rfl, (fits_iff g).mpr ?_⟩, ?_⟩
      · show R - c - _ < R
        omega
      · show R - c - (Mx.turnN (u % 4) m).h + (Mx.turnN (u % 4) m).h ≤ R ∧ r + (Mx.turnN (u % 4) m).w ≤ C
        omega
      · show (⟨r, R - (R - c - _) - _, τ u, cellsAt m' (τ u) r (R - (R - c - _) - _)⟩ : Spot) = _
        have : R - (R - c - (Mx.turnN (u % 4) m).h) - (Mx.turnN (u % 4) m).h = c := by omega
        rw [this]
  · obtain ⟨a1, a2, a3, a4, a5⟩ := mem_spots.mp hs
    have f1 := (fits_iff g).mp a5
    refine ⟨fun c hc => ?_, fun c => ?_⟩
    · have := List.all_eq_true.mp a5 c (by rw [← a4]; exact hc)
      simp only [inB, Bool.and_eq_true, decide_eq_true_eq] at this
      exact this.1
    · show c ∈ cellsAt m' (τ s.turn) s.col _ ↔ _
      rw [a4]
      unfold cellsAt
      rw [(h1 _ a3).2]
      generalize hL : Mx.turnN (s.turn % 4) m = L at f1
      have hp := turn_perm L
      constructor
      · intro hc
        obtain ⟨q, hq, rfl⟩ := List.mem_map.mp hc
        obtain ⟨p, hp', rfl⟩ := List.mem_map.mp (hp.mem_iff.mpr hq)
        have := Mx.mem_cells.mp hp'
        refine ⟨(s.row + p.1, s.col + p.2), List.mem_map.mpr ⟨p, hp', rfl⟩, ?_⟩
        show (s.col + p.2, R - 1 - (s.row + p.1)) = (s.col + p.2, _)
        have : R - 1 - (s.row + p.1) = R - s.row - L.h + (L.h - 1 - p.1) := by omega
        rw [this]
      · rintro ⟨a, ha, rfl⟩
        obtain ⟨p, hp', rfl⟩ := List.mem_map.mp ha
        have := Mx.mem_cells.mp hp'
        refine List.mem_map.mpr ⟨(p.2, L.h - 1 - p.1), hp.mem_iff.mp (List.mem_map.mpr ⟨p, hp', rfl⟩), ?_⟩
        show (s.col + p.2, R - s.row - L.h + (L.h - 1 - p.1)) = (s.col + p.2, R - 1 - (s.row + p.1))
        have : R - 1 - (s.row + p.1) = R - s.row - L.h + (L.h - 1 - p.1) := by omega
        rw [this]
end Pk
end

section
set_option Elab.async false
set_option linter.all false
set_option maxRecDepth 100000
set_option maxHeartbeats 4000000
/-! ### packing: look_packing, spots -/
namespace G
open PySem PySem.Spec PyProof.Rows L2 Sh
structure TxtP (K : PySem.W.Frag) (mg : Str → Option Value) (CA : Str → Addr) : Prop where
  ms : ∃ t, mg "MOST_SIDE_packing" = some (.int 4 t)
  mh : ∃ t, mg "MOST_SHAPES" = some (.int 5 t)
  mc : ∃ t, mg "MOST_COUNTED" = some (.int 4 t)
  sum : mg "sum" = none
  bad : ExcT K mg CA "BadNumber"
def badP (n : Nat) (R C most : Int) : Bool := decide (most < (n : Int)) || (!(decide (1 ≤ R) && decide (R ≤ 4)) || !(decide (1 ≤ C) && decide (C ≤ 4)))
def relLookP : List PyData → Res → Prop := fun ds o => ∃ (shs : List PyData) (R C most : Int), ds = [.list shs, .int R, .int C, .int most] ∧ shs.length ≤ 1000 ∧ o = if badP shs.length R C most then .ex "BadNumber" else .ok .none
def spotPk (q : Pk.Spot) : PyData := .tuple [.int (q.row : Int), .int (q.col : Int), .int (q.turn : Int), cellsD q.some]
def spotsD (l : List Pk.Spot) : PyData := .list (l.map spotPk)
def tsOf (m : Mx) (may : Bool) : List Nat := if may then turnsM m else [0]
def relSpots : List PyData → Res → Prop := fun ds o => ∃ (m : Mx) (R C : Nat) (may : Bool), m.Good ∧ R ≤ 4 ∧ C ≤ 4 ∧ ds = [shD m.enc, .int (R : Int), .int (C : Int), .bool may] ∧ o = .ok (spotsD (Pk.spots m R C (tsOf m may)))
def relSpotsX : List PyData → Res → Prop := fun ds o => relSpots ds o ∨ ∃ (rows : List Str) (R C : Nat), rows.length ≤ 100 ∧ (∀ r ∈ rows, r.length ≤ 100) ∧ goodS rows = false ∧ 1 ≤ R ∧ R ≤ 4 ∧ 1 ≤ C ∧ C ≤ 4 ∧ ds = [shD rows, .int (R : Int), .int (C : Int), .bool true] ∧ o = .ex "BadShape"
theorem tsOf_len (m : Mx) (may : Bool) : (tsOf m may).length ≤ 4 := by
  cases may
  · exact (by decide : 1 ≤ 4)
  · exact looksTo_len m 4
theorem tsOf_lt (m : Mx) (may : Bool) : ∀ t ∈ tsOf m may, t < 4 := by
  cases may
  · intro t ht
    have : t = 0 := by simpa [tsOf] using ht
    omega
  · exact looksTo_lt m 4
theorem cellsAt_D (m : Mx) (u r c : Nat) : PyData.list ((Mx.turnN (u % 4) m).cells.map fun p => prN (r + p.1, c + p.2)) = cellsD (Pk.cellsAt m u r c) := by
  show PyData.list _ = .list ((List.map _ _).map prN)
  rw [List.map_map]
  rfl
section
variable {P : Program} {w : World} {K : PySem.W.Frag} {mg : Str → Option Value} {base : Heap} {CA : Str → Addr}
theorem ok_lookP (t : TxtS K mg CA) (tp : TxtP K mg CA) (D : DefT K mg "look_packing" T.s_look_packing) : FnF P w K mg base 1 "look_packing" (lift CA (pmD relLookP)) := by
  refine mkFn D (ps := T.P_look_packing) (fun f fd Fd => fn_data Fd T.sc_look_packing (fun ds o h => by obtain ⟨_, _, _, _, rfl, _⟩ := h; rfl) fun cdv A outer s H E R0 hr ds o h => ?_) fun _ _ _ _ _ _ us hl => match us, hl with | [_, _, _, _], _ => rfl
  obtain ⟨shs, R, C, most, rfl, hl, rfl⟩ := h
  refine sb_one (s_if (EvT.s (v := badP shs.length R C most) (EvT.is (et_or3 (et_gt (ev_lenL t.len (ev_var 0)) (ev_var 3)) (fun _ => et_not (et_lele ev_int (ev_var 1) (ev_gint tp.ms))) (fun _ _ => et_not (et_lele ev_int (ev_var 2) (ev_gint tp.ms)))) rfl) ⟨fun hv => ?_, fun hv => ?_⟩))
  · rw [if_pos hv]
    exact sb_one (s_raiseT tp.bad rfl rfl)
  · rw [if_neg (by rw [hv]; exact Bool.false_ne_true)]
    exact sb_nil rfl
theorem ok_spots (t : TxtS K mg CA) (D : DefT K mg "spots" T.s_spots) (ft : TurnedF P w K mg base CA) (fc : CellsF P w K mg base CA) (fu : TurnsF P w K mg base CA) : FnF P w K mg base 4 "spots" (lift CA (pmD relSpotsX)) := by
  refine mkFn D (ps := T.P_spots) (fun f fd Fd => fn_data Fd T.sc_spots (fun ds o h => by rcases h with ⟨_, _, _, _, _, _, _, rfl, _⟩ | ⟨_, _, _, _, _, _, _, _, _, _, rfl, _⟩ <;> rfl) fun cdv A outer s H E R0 hr ds o h => ?_) fun _ _ _ _ _ _ us hl => match us, hl with | [_, _, _, _], _ => rfl
  have nd := T.sc_spots.nd
  rcases h with h | ⟨rows, R, C, l1, l2, bad, R1, R4, C1, C4, rfl, rfl⟩
  rotate_left
  · refine sb_cons (s_asgL 4 nd (esa_nil ⟨[], rfl, by decide, ?_⟩))
    refine sb_cons (s_for (List.range R) (fun i : Nat => PyData.int (i : Int)) (vs := [5]) (passes_of rfl) rfl (ei_rangeN t.range (ev_var 1) (by omega))
      (fun i ρ' _ => i = 0 ∧ ρ' = [some (.d (shD rows)), some (.d (.int (R : Int))), some (.d (.int (C : Int))), some (.d (.bool true)), some (.own []), none, none, none, none, none, none]) ⟨rfl, rfl⟩ ?_ ?_)
    · rintro r x ρ' w' hi ⟨rfl, rfl⟩
      refine ⟨_, tg_name 5 nd (by decide), ?_⟩
      refine sb_one (s_for (List.range C) (fun i : Nat => PyData.int (i : Int)) (vs := [6]) (passes_of rfl) rfl (ei_rangeN t.range (ev_var 2) (by omega))
        (fun i ρ' _ => i = 0 ∧ ρ' = [some (.d (shD rows)), some (.d (.int (R : Int))), some (.d (.int (C : Int))), some (.d (.bool true)), some (.own []), some (.d (.int (x : Int))), none, none, none, none, none]) ⟨rfl, rfl⟩ ?_ ?_)
      · rintro c y ρ' w' hj ⟨rfl, rfl⟩
        refine ⟨_, tg_name 6 nd (by decide), ?_⟩
        refine sb_one (s_forS (α := Nat) (fun i : Nat => PyData.int (i : Int)) (vs := [7]) (passes_of rfl) rfl (esi_list (es_if (EvT.s (v := true) (et_val (ev_var 3)) ⟨fun _ => ?_, fun hv => (by cases hv)⟩))))
        exact es_callD fu hr (ea_one (ev_var 0)) (turnsOf_bad l1 l2 bad) (fun d e => by cases e) (fun c e => e)
      · rintro ρ' w' ⟨e, _⟩
        rw [List.length_range] at e
        omega
    · rintro ρ' w' ⟨e, _⟩
      rw [List.length_range] at e
      omega
  obtain ⟨m, R, C, may, g, hR, hC, rfl, rfl⟩ := h
  have htl := tsOf_len m may
  have htt := tsOf_lt m may
  generalize hts : tsOf m may = ts at *
  refine sb_cons (s_asgL 4 nd (esa_nil ⟨[], rfl, by decide, ?_⟩))
  refine sb_cons (s_for (List.range R) (fun i : Nat => PyData.int (i : Int)) (vs := [5]) (passes_of rfl) rfl (ei_rangeN t.range (ev_var 1) (by omega))
    (fun i ρ' _ => ∃ o1 o2 o3 o4, ρ' = [some (.d (shD m.enc)), some (.d (.int (R : Int))), some (.d (.int (C : Int))), some (.d (.bool may)), some (.own ((Pk.spotsR m R C ts i).map spotPk)), o1, o2, o3, o4, none, none]) ⟨_, _, _, _, rfl⟩ ?_ ?_)
  · rintro r x ρ' w' hi ⟨o1, o2, o3, o4, rfl⟩
    obtain ⟨hrR, ex⟩ := List.getElem?_eq_some_iff.mp hi
    rw [List.length_range] at hrR
    have ex : r = x := by simpa using ex
    subst ex
    refine ⟨_, tg_name 5 nd (by decide), ?_⟩
    refine sb_one (s_for (List.range C) (fun i : Nat => PyData.int (i : Int)) (vs := [6]) (passes_of rfl) rfl (ei_rangeN t.range (ev_var 2) (by omega))
      (fun i ρ' _ => ∃ o2 o3 o4, ρ' = [some (.d (shD m.enc)), some (.d (.int (R : Int))), some (.d (.int (C : Int))), some (.d (.bool may)), some (.own ((Pk.spotsR m R C ts r ++ Pk.spotsC m R C ts r i).map spotPk)), some (.d (.int (r : Int))), o2, o3, o4, none, none]) ⟨o2, o3, o4, by rw [show Pk.spotsC m R C ts r 0 = [] from rfl, List.append_nil]; rfl⟩ ?_ ?_)
    · rintro c x ρ' w' hi ⟨o2, o3, o4, rfl⟩
      obtain ⟨hcC, ex⟩ := List.getElem?_eq_some_iff.mp hi
      rw [List.length_range] at hcC
      have ex : c = x := by simpa using ex
      subst ex
      refine ⟨_, tg_name 6 nd (by decide), ?_⟩
      refine sb_one (s_for ts (fun i : Nat => PyData.int (i : Int)) (vs := [7]) (passes_of rfl) rfl (ei_list (ev_if (v := may) (et_val (ev_var 3)) (fun hv => ?_) (fun hv => ?_)))
        (fun i ρ' _ => ∃ o3 o4, ρ' = [some (.d (shD m.enc)), some (.d (.int (R : Int))), some (.d (.int (C : Int))), some (.d (.bool may)), some (.own ((Pk.spotsR m R C ts r ++ Pk.spotsC m R C ts r c ++ Pk.spotsT m R C r c (ts.take i)).map spotPk)), some (.d (.int (r : Int))), some (.d (.int (c : Int))), o3, o4, none, none]) ⟨o3, o4, by rw [show Pk.spotsT m R C r c (ts.take 0) = [] from rfl, List.append_nil]; rfl⟩ ?_ ?_)
      · subst hv
        rw [← hts]
        exact ev_call fu hr (ea_one (ev_var 0)) (turnsOf_good g)
      · subst hv
        rw [← hts]
        exact ev_lst (ds := [.int 0]) (ea_one ev_int) (by decide)
      · rintro k u ρ' w' hi ⟨o3, o4, rfl⟩
        obtain ⟨hk, eu⟩ := List.getElem?_eq_some_iff.mp hi
        have hu4 : u < 4 := htt u (by rw [← eu]; exact List.getElem_mem _)
        have gt := g.turnN (u % 4)
        have hcl := cells_len gt
        refine ⟨_, tg_name 7 nd (by decide), ?_⟩
        refine sb_cons (s_asgC (own := [("down", 9), ("right", 10)]) 8 rfl nd (blkOk_by (N := T.N_spots) (sc := defScope T.s_spots) (by decide +kernel))
            (lc_map (Mx.turnN (u % 4) m).cells prN (fun p => prN (r + p.1, c + p.2)) (fun p => _) (EvI.c (ei_list (ev_call fc (hr.mono (by decide)) (ea_one (ev_call ft (hr.mono (by decide)) (ea_cons (ev_var 0) (ea_one (ev_var 7))) (turned_good g u))) (cells_good gt)))) ?_
              (fun _ _ _ _ _ p hp => tg_tup rfl (tgs_cons (tg_name 9 nd (by decide)) (tgs_cons (tg_name 10 nd (by decide)) tgs_nil)))
              (fun _ _ _ _ _ p hp => Ev.is (ev_tup (ea_cons (ev_add (ev_var 5) (ev_var 9)) (ea_cons (ev_add (ev_var 6) (ev_var 10)) ea_nil))) (by simp [prN]))) ?_)
        · exact Nat.lt_of_le_of_lt hcl (by decide)
        rw [cellsAt_D]
        refine sb_one (s_if (EvT.s (v := Pk.fitsAt m R C u r c) (et_val (ev_allF (xs := Pk.cellsAt m u r c) (f := Pk.inB R C) rfl t.all (ev_lcp (own := [("down", 9), ("right", 10)]) rfl nd (blkOk_by (N := T.N_spots) (sc := defScope T.s_spots) (by decide +kernel))
            (lc_map (Pk.cellsAt m u r c) prN (fun p => .bool (Pk.inB R C p)) (fun p => _) (EvI.c (ei_list (ev_var 8))) ?_
              (fun _ _ _ _ _ p hp => tg_tup rfl (tgs_cons (tg_name 9 nd (by decide)) (tgs_cons (tg_name 10 nd (by decide)) tgs_nil)))
              (fun _ _ _ _ _ p hp => Ev.is (ev_and (ev_lt (ev_var 9) (ev_var 1)) fun _ => ev_one (ev_lt (ev_var 10) (ev_var 2))) (by simp [Pk.inB])))))) ⟨fun hv => ?_, fun hv => ?_⟩))
        · show (List.map _ _).length < _
          rw [List.length_map]
          exact Nat.lt_of_le_of_lt hcl (by decide)
        · refine sb_one (s_app 4 rfl (Ev.s (ev_tup (ea_cons (ev_var 5) (ea_cons (ev_var 6) (ea_cons (ev_var 7) (ea_one (ev_var 8)))))) ⟨_, rfl, ?_, some (.d (.int (u : Int))), some (.d (cellsD (Pk.cellsAt m u r c))), ?_⟩))
          · rw [List.length_map, List.length_append, List.length_append]
            have h1 := Pk.spotsR_len m R C ts r
            have h2 := Pk.spotsC_len m R C ts r c
            have h3 := Pk.spotsT_len m R C r c (ts.take k)
            rw [List.length_take] at h3
            have h4 : c * ts.length ≤ 4 * 4 := Nat.mul_le_mul (by omega) htl
            have h5 : C * ts.length ≤ 4 * 4 := Nat.mul_le_mul hC htl
            have h6 : r * (C * ts.length) ≤ 4 * 16 := Nat.mul_le_mul (by omega) h5
            exact Nat.lt_of_le_of_lt (show _ ≤ 200 by omega) (by decide)
          · rw [Pk.spotsT_take m R C r c ts k u hi, if_pos hv, ← List.append_assoc, List.map_append (l₂ := [_])]
            rfl
        · refine sb_nil ⟨some (.d (.int (u : Int))), some (.d (cellsD (Pk.cellsAt m u r c))), ?_⟩
          rw [Pk.spotsT_take m R C r c ts k u hi, if_neg (by rw [hv]; exact Bool.false_ne_true), List.append_nil]
          rfl
      · rintro ρ' w' ⟨o3, o4, rfl⟩
        refine ⟨some (.d (.int (c : Int))), o3, o4, ?_⟩
        rw [List.take_length, Pk.spotsC_succ, ← List.append_assoc]
    · rintro ρ' w' ⟨o2, o3, o4, rfl⟩
      refine ⟨some (.d (.int (r : Int))), o2, o3, o4, ?_⟩
      rw [List.length_range, Pk.spotsR_succ]
  · rintro ρ' w' ⟨o1, o2, o3, o4, rfl⟩
    refine sb_freeze 4 rfl ?_
    rw [List.length_range]
    exact sb_one (s_ret (Ev.s (ev_var 4) ⟨_, rfl, rfl⟩))
end
end G
end

section
set_option Elab.async false
set_option linter.all false
set_option maxRecDepth 100000
set_option maxHeartbeats 4000000
/-! ### packing: count_ways, laid -/
namespace G
open PySem PySem.Spec PyProof.Rows L2 Sh
/-- a list as a test -/
theorem et_list {X : Cx} {Ω : Om} {ρ : Rho} {e : Expr} {ds : List PyData} (h : Ev X Ω ρ e (.list ds)) (he : ∀ whole, isTrue e X.env whole = (do let v ← whole; standAt e.pos; holding [v] (truthy v)) := by intro _; rfl) : EvT X Ω ρ e (!ds.isEmpty) := fun F L R H σ g om k Q q =>
  toT (pt_truth (pe_w e) he) (h F L R H σ g om k _ fun v F1 R1 H1 s1 o1 k1 r1 => by
    cases r1 with
    | lst h1 h2 =>
      refine ⟨!ds.isEmpty, .inl ⟨_, SqL.of (k1.f _ _ h1), ?_⟩, q F1 R1 H1 s1 o1 k1⟩
      cases h2 <;> rfl)
def ck (c : Pk.Cell) : List L2.Key := [.inl (c.1 : Int), .inl (c.2 : Int)]
theorem ck_inj {a b : Pk.Cell} (h : ck a = ck b) : a = b := by
  obtain ⟨a1, a2⟩ := a
  obtain ⟨b1, b2⟩ := b
  simp only [ck, List.cons.injEq, Sum.inl.injEq, and_true] at h
  obtain ⟨h1, h2⟩ := h
  have h1 : a1 = b1 := Int.ofNat.inj h1
  have h2 : a2 = b2 := Int.ofNat.inj h2
  rw [h1, h2]
def takenK (l : List Pk.Cell) : List (List L2.Key × Sv) := l.map fun c => (ck c, .d (.bool true))
theorem takenK_keys (l : List Pk.Cell) : (takenK l).map (·.1) = l.map ck := by
  unfold takenK
  rw [List.map_map]
  rfl
theorem takenK_get (l : List Pk.Cell) (c : Pk.Cell) : (aget (takenK l) (ck c)).isSome = decide (c ∈ l) := by
  cases e : aget (takenK l) (ck c) with
  | none =>
    have := aget_none.mp e
    rw [takenK_keys] at this
    have : c ∉ l := fun h => this (List.mem_map_of_mem h)
    simp [this]
  | some v =>
    have h := List.mem_map_of_mem (f := fun p : List L2.Key × Sv => p.1) (aget_mem e)
    rw [takenK_keys] at h
    obtain ⟨x, h1, h2⟩ := List.mem_map.mp h
    have := ck_inj h2
    subst this
    simp [h1]
theorem takenK_put {l : List Pk.Cell} {c : Pk.Cell} (h : c ∉ l) : aput (takenK l) (ck c) (.d (.bool true)) = takenK (l ++ [c]) := by
  unfold aput
  have : (aget (takenK l) (ck c)).isSome = false := by
    rw [takenK_get]
    simpa using h
  rw [any_aget, this, if_neg (by simp)]
  simp [takenK]
def Box (c : Pk.Cell) : Prop := c.1 < 4 ∧ c.2 < 4
def OkT (l : List Pk.Cell) : Prop := l.Nodup ∧ ∀ c ∈ l, Box c
def OkE (E : List (List Pk.Spot)) : Prop := ∀ S ∈ E, S.length ≤ 1000 ∧ ∀ s ∈ S, OkT s.some
def hz (i j : Nat) : Int := reduceHash (Builtin.Tuple.tupleHashOf [hashInt (i : Int), hashInt (j : Int)])
theorem hz_inj : ∀ i : Fin 4, ∀ j : Fin 4, ∀ i' : Fin 4, ∀ j' : Fin 4, hz i j = hz i' j' → i = i' ∧ j = j' := by decide +kernel
theorem hash_apart (X : Cx) : ∀ {l : List Pk.Cell}, OkT l → ((takenK l).map fun p => hashT X p.1).Nodup
  | [], _ => List.nodup_nil
  | c :: l, h => by
    have h1 := (List.nodup_cons.mp h.1)
    refine List.nodup_cons.mpr ⟨fun hm => ?_, hash_apart X ⟨h1.2, fun x hx => h.2 x (List.mem_cons_of_mem _ hx)⟩⟩
    obtain ⟨p, hp, e⟩ := List.mem_map.mp hm
    obtain ⟨y, hy, rfl⟩ := List.mem_map.mp hp
    have b1 := h.2 c List.mem_cons_self
    have b2 := h.2 y (List.mem_cons_of_mem _ hy)
    have e : hz y.1 y.2 = hz c.1 c.2 := e
    have := hz_inj ⟨y.1, b2.1⟩ ⟨y.2, b2.2⟩ ⟨c.1, b1.1⟩ ⟨c.2, b1.2⟩ e
    have e1 : y.1 = c.1 := congrArg Fin.val this.1
    have e2 : y.2 = c.2 := congrArg Fin.val this.2
    have : y = c := Prod.ext e1 e2
    subst this
    exact h1.1 hy
theorem OkT.add {l s : List Pk.Cell} (h : OkT l) (h' : OkT s) (hf : Pk.free l s = true) : OkT (l ++ s) := by
  refine ⟨List.nodup_append.mpr ⟨h.1, h'.1, fun a ha b hb e => ?_⟩, fun c hc => ?_⟩
  · subst e
    unfold Pk.free at hf
    simp only [Bool.not_eq_true', List.any_eq_false, decide_eq_true_eq] at hf
    exact hf a hb ha
  · rcases List.mem_append.mp hc with h1 | h1
    · exact h.2 c h1
    · exact h'.2 c h1
theorem nodup_sub {α : Type} [DecidableEq α] : ∀ {l m : List α}, l.Nodup → l ⊆ m → l.length ≤ m.length
  | [], _, _, _ => Nat.zero_le _
  | a :: l, m, h, hs => by
    have h1 := List.nodup_cons.mp h
    have ha : a ∈ m := hs List.mem_cons_self
    have := nodup_sub (m := m.erase a) h1.2 fun x hx => (List.mem_erase_of_ne (fun e : x = a => h1.1 (by rw [← e]; exact hx))).mpr (hs (List.mem_cons_of_mem _ hx))
    rw [List.length_erase_of_mem ha] at this
    have := List.length_pos_of_mem ha
    rw [List.length_cons]
    omega
theorem box_len {l : List Pk.Cell} (h : OkT l) : l.length ≤ 16 := by
  have hs : l ⊆ (List.range 4).flatMap fun i => (List.range 4).map fun j => (i, j) := fun c hc => by
    obtain ⟨h1, h2⟩ := h.2 c hc
    exact List.mem_flatMap.mpr ⟨c.1, List.mem_range.mpr h1, List.mem_map.mpr ⟨c.2, List.mem_range.mpr h2, rfl⟩⟩
  exact nodup_sub h.1 hs
def everyD (E : List (List Pk.Spot)) : PyData := .list (E.map spotsD)
def cwR (n : Nat) : List Sv → List Thing → ResS → Prop := fun svs w r => ∃ (j : Nat) (E : List (List Pk.Spot)) (taken : List Pk.Cell) (q : Addr), svs = [.d (everyD E), .raw (.ref q)] ∧ w[j]? = some (DicS kdT q (takenK taken)) ∧ E.length ≤ n ∧ OkE E ∧ OkT taken ∧ r = .ok (.d (.int ((Pk.ways E taken : Nat) : Int)))
def wayD : Option (List Pk.Spot) → PyData
  | none => .none
  | some l => .list (l.map fun s => .tuple [.int (s.turn : Int), .int (s.row : Int), .int (s.col : Int)])
def laidR (n : Nat) : List Sv → List Thing → ResS → Prop := fun svs w r => ∃ (j : Nat) (E : List (List Pk.Spot)) (taken : List Pk.Cell) (q : Addr), svs = [.d (everyD E), .raw (.ref q)] ∧ w[j]? = some (DicS kdT q (takenK taken)) ∧ E.length ≤ n ∧ OkE E ∧ OkT taken ∧ r = .ok (.d (wayD (Pk.laid E taken)))
theorem cut_tail (S : List Pk.Spot) (E : List (List Pk.Spot)) : PyData.list (cutD ((S :: E).map spotsD) (some 1) none) = everyD E := by
  unfold cutD everyD
  rw [show (some (1 : Int)) = some ((1 : Nat) : Int) from rfl, HT.sIx_nat, HT.sIx_none, List.map_cons, List.length_cons, Nat.min_eq_left (by omega), List.drop_succ_cons, List.drop_zero, List.take_of_length_le (by simp)]
section
variable {P : Program} {w : World} {K : PySem.W.Frag} {mg : Str → Option Value} {base : Heap} {CA : Str → Addr}
theorem cw_base (D : DefT K mg "count_ways" T.s_count_ways) : FnF P w K mg base 1 "count_ways" (lift CA (pmW (rdo (cwR 0)))) := by
  refine mkW D T.sc_count_ways ?_ (fun f cdv A outer s H E R0 svs th Q hr h => ?_) fun _ _ _ _ _ _ us hl => match us, hl with | [_, _], _ => rfl
  · rintro svs th Q ⟨_, ⟨_, _, _, _, rfl, _⟩, _⟩
    rfl
  obtain ⟨r, ⟨j, E, taken, q, rfl, hj, hn, hE, hT, rfl⟩, hq⟩ := h
  have e : E = [] := List.length_eq_zero_iff.mp (by omega)
  subst e
  refine sb_cons (s_if (EvT.s (v := true) (et_not (et_list (ds := []) (ev_var 0))) ⟨fun _ => ?_, fun hv => (by cases hv)⟩))
  exact sb_one (s_ret (Ev.s ev_int hq))
theorem cw_step {n : Nat} (t : TxtS K mg CA) (fn : FnF P w K mg base (n + 1) "count_ways" (lift CA (pmW (rdo (cwR n))))) (D : DefT K mg "count_ways" T.s_count_ways) : FnF P w K mg base (n + 2) "count_ways" (lift CA (pmW (rdo (cwR (n + 1))))) := by
  refine mkW D T.sc_count_ways ?_ (fun f cdv A outer s H E0 R0 svs th Q hr h => ?_) fun _ _ _ _ _ _ us hl => match us, hl with | [_, _], _ => rfl
  · rintro svs th Q ⟨_, ⟨_, _, _, _, rfl, _⟩, _⟩
    rfl
  obtain ⟨r, ⟨j, E, taken, q, rfl, hj, hn, hE, hT, rfl⟩, hq⟩ := h
  have nd := T.sc_count_ways.nd
  cases E with
  | nil =>
    refine sb_cons (s_if (EvT.s (v := true) (et_not (et_list (ds := []) (ev_var 0))) ⟨fun _ => ?_, fun hv => (by cases hv)⟩))
    exact sb_one (s_ret (Ev.s ev_int hq))
  | cons S E =>
    refine sb_no (et_not (et_list (ds := spotsD S :: E.map spotsD) (ev_var 0))) rfl ?_
    refine sb_cons (s_asg 2 nd (Ev.s ev_int ?_))
    have hS := hE S List.mem_cons_self
    have hE' : OkE E := fun S' h' => hE S' (List.mem_cons_of_mem _ h')
    let g : Pk.Spot → Nat := fun s => if Pk.free taken s.some then Pk.ways E (taken ++ s.some) else 0
    refine sb_cons (s_for S spotPk (vs := [3, 4, 5, 6]) (passes_of rfl) rfl (ei_list (ev_ixL (ev_var 0) ev_int (atI_zero _ _)))
      (fun i ρ' w' => th = w' ∧ ∃ o3 o4 o5 o6 o7 o8, ρ' = [some (.d (everyD (S :: E))), some (.raw (.ref q)), some (.d (.int ((((S.take i).map g).sum : Nat) : Int))), o3, o4, o5, o6, o7, o8]) ⟨rfl, _, _, _, _, _, _, rfl⟩ ?_ ?_)
    · rintro i x ρ' w' hi ⟨rfl, o3, o4, o5, o6, o7, o8, rfl⟩
      obtain ⟨hil, ex⟩ := List.getElem?_eq_some_iff.mp hi
      have hx : x ∈ S := by rw [← ex]; exact List.getElem_mem _
      have hxo := hS.2 x hx
      have hxl := box_len hxo
      have hsum : ((S.take (i + 1)).map g).sum = ((S.take i).map g).sum + g x := by
        rw [List.take_succ_eq_append_getElem hil, List.map_append, List.sum_append, ex]
        simp
      refine ⟨_, tg_tup rfl (tgs_cons (tg_name 3 nd (by decide)) (tgs_cons (tg_name 4 nd (by decide)) (tgs_cons (tg_name 5 nd (by decide)) (tgs_cons (tg_name 6 nd (by decide)) tgs_nil)))), ?_⟩
      refine sb_post ?_
      refine sb_one (s_if (EvT.s (v := Pk.free taken x.some) (et_not (et_val (ev_anyF (xs := x.some) (f := fun c => decide (c ∈ taken)) rfl t.any (ev_lcp (own := [("cell", 8)]) rfl nd (blkOk_by (N := T.N_count_ways) (sc := defScope T.s_count_ways) (by decide +kernel))
        (lc_map x.some prN (fun c => .bool (decide (c ∈ taken))) (fun c => _) (EvI.c (ei_list (ev_var 6))) (Nat.lt_of_le_of_lt hxl (by decide)) (fun _ _ _ _ _ c hc => tg_name 8 nd (by decide))
          (fun _ _ _ _ _ c hc => Ev.is (ev_din (D := kdT) (k := ck c) (u1 hr) (ev_var 8) (vv 1) (dicH_of j hj).r) (by rw [takenK_get]))))))) ⟨fun hv => ?_, fun hv => ?_⟩))
      · refine sb_cons (s_asg 7 nd (es_dcopy (vv 1) (dicH_of j hj).r (hash_apart _ hT) fun p => ?_))
        have hth : ∀ l, (th ++ [DicS kdT p (takenK l)])[th.length]? = some (DicS kdT p (takenK l)) := fun l => by simp
        refine sb_cons (s_for x.some prN (vs := [8]) (passes_of rfl) rfl (ei_list (ev_var 6))
          (fun k ρ' w' => w' = th ++ [DicS kdT p (takenK (taken ++ x.some.take k))] ∧ ∃ o8, ρ' = [some (.d (everyD (S :: E))), some (.raw (.ref q)), some (.d (.int ((((S.take i).map g).sum : Nat) : Int))), some (.d (.int (x.row : Int))), some (.d (.int (x.col : Int))), some (.d (.int (x.turn : Int))), some (.d (cellsD x.some)), some (.raw (.ref p)), o8]) ⟨by rw [List.take_zero, List.append_nil], _, rfl⟩ ?_ ?_)
        · rintro k c ρ' w' hk ⟨rfl, o8, rfl⟩
          obtain ⟨hkl, ec⟩ := List.getElem?_eq_some_iff.mp hk
          have hcm : c ∈ x.some := by rw [← ec]; exact List.getElem_mem _
          have hc1 : c ∉ taken := fun hm => by
            have := hv
            unfold Pk.free at this
            simp only [Bool.not_eq_true', List.any_eq_false, decide_eq_true_eq] at this
            exact this c hcm hm
          have hc2 : c ∉ x.some.take k := fun hm => by
            obtain ⟨a, ha, e⟩ := List.mem_take_iff_getElem.mp hm
            have := (List.getElem_inj (hxo.1)).mp (e.trans ec.symm)
            omega
          refine ⟨_, tg_name 8 nd (by decide), ?_⟩
          refine sb_one (s_dset (D := kdT) (k := ck c) (sv := .d (.bool true)) th.length (u1 hr) (Ev.v ev_bl) (vv 7) (ev_var 8) (hth _) (dicW_S _ _ _) ?_ ⟨?_, some (.d (prN c)), rfl⟩)
          · unfold takenK
            rw [List.length_map, List.length_append, List.length_take]
            have := box_len hT
            exact Nat.lt_of_le_of_lt (show _ ≤ 32 by omega) (by decide)
          · rw [takenK_put (fun hm => (List.mem_append.mp hm).elim hc1 hc2), List.take_succ_eq_append_getElem hkl, ec, List.append_assoc]
            rw [List.set_append_right _ _ (Nat.le_refl _)]
            simp
        · rintro ρ' w' ⟨rfl, o8, rfl⟩
          rw [List.take_length]
          refine sb_one (s_asg 2 nd (Ev.s (Ev.is (ev_add (ev_var 2) (EvV.dat (vcall fn hr (va_cons (Ev.v (Ev.is (ev_cutL (ev_var 0) (ep_some ev_int) ep_none) (cut_tail S E))) (va_one (vv 7))) ⟨th.length, E, taken ++ x.some, p, rfl, hth _, ?_, hE', hT.add hxo hv, rfl⟩))) ?_) ⟨th, fun F R h => h.drop, rfl, _, _, _, _, _, _, rfl⟩))
          · simp at hn
            omega
          · rw [hsum]
            have : g x = Pk.ways E (taken ++ x.some) := if_pos hv
            rw [this]
            simp
      · refine sb_nil ⟨th, fun F R h => h, rfl, some (.d (.int (x.row : Int))), some (.d (.int (x.col : Int))), some (.d (.int (x.turn : Int))), some (.d (cellsD x.some)), o7, o8, ?_⟩
        rw [hsum]
        have : g x = 0 := if_neg (by rw [hv]; exact Bool.false_ne_true)
        rw [this]
        rfl
    · rintro ρ' w' ⟨rfl, o3, o4, o5, o6, o7, o8, rfl⟩
      rw [List.take_length]
      exact sb_one (s_ret (Ev.s (ev_var 2) hq))
theorem laid_base (D : DefT K mg "laid" T.s_laid) : FnF P w K mg base 1 "laid" (lift CA (pmW (rdo (laidR 0)))) := by
  refine mkW D T.sc_laid ?_ (fun f cdv A outer s H E R0 svs th Q hr h => ?_) fun _ _ _ _ _ _ us hl => match us, hl with | [_, _], _ => rfl
  · rintro svs th Q ⟨_, ⟨_, _, _, _, rfl, _⟩, _⟩
    rfl
  obtain ⟨r, ⟨j, E, taken, q, rfl, hj, hn, hE, hT, rfl⟩, hq⟩ := h
  have e : E = [] := List.length_eq_zero_iff.mp (by omega)
  subst e
  refine sb_cons (s_if (EvT.s (v := true) (et_not (et_list (ds := []) (ev_var 0))) ⟨fun _ => ?_, fun hv => (by cases hv)⟩))
  exact sb_one (s_ret (Ev.s (ev_lst ea_nil) hq))
theorem laid_step {n : Nat} (hn10 : n ≤ 10) (t : TxtS K mg CA) (fn : FnF P w K mg base (n + 1) "laid" (lift CA (pmW (rdo (laidR n))))) (D : DefT K mg "laid" T.s_laid) : FnF P w K mg base (n + 2) "laid" (lift CA (pmW (rdo (laidR (n + 1))))) := by
  refine mkW D T.sc_laid ?_ (fun f cdv A outer s H E0 R0 svs th Q hr h => ?_) fun _ _ _ _ _ _ us hl => match us, hl with | [_, _], _ => rfl
  · rintro svs th Q ⟨_, ⟨_, _, _, _, rfl, _⟩, _⟩
    rfl
  obtain ⟨r, ⟨j, E, taken, q, rfl, hj, hn, hE, hT, rfl⟩, hq⟩ := h
  have nd := T.sc_laid.nd
  cases E with
  | nil =>
    refine sb_cons (s_if (EvT.s (v := true) (et_not (et_list (ds := []) (ev_var 0))) ⟨fun _ => ?_, fun hv => (by cases hv)⟩))
    exact sb_one (s_ret (Ev.s (ev_lst ea_nil) hq))
  | cons S E =>
    refine sb_no (et_not (et_list (ds := spotsD S :: E.map spotsD) (ev_var 0))) rfl ?_
    have hS := hE S List.mem_cons_self
    have hE' : OkE E := fun S' h' => hE S' (List.mem_cons_of_mem _ h')
    let g : Pk.Spot → Option (List Pk.Spot) := fun s => if Pk.free taken s.some then (Pk.laid E (taken ++ s.some)).map (s :: ·) else none
    have hlaid : Pk.laid (S :: E) taken = Pk.firstSome g S := rfl
    refine sb_cons (s_for S spotPk (vs := [2, 3, 4, 5]) (passes_of rfl) rfl (ei_list (ev_ixL (ev_var 0) ev_int (atI_zero _ _)))
      (fun i ρ' w' => th = w' ∧ (∀ x ∈ S.take i, g x = none) ∧ ∃ o2 o3 o4 o5 o6 o7 o8, ρ' = [some (.d (everyD (S :: E))), some (.raw (.ref q)), o2, o3, o4, o5, o6, o7, o8]) ⟨rfl, fun x hx => (by simp at hx), _, _, _, _, _, _, _, rfl⟩ ?_ ?_)
    · rintro i x ρ' w' hi ⟨rfl, hno, o2, o3, o4, o5, o6, o7, o8, rfl⟩
      obtain ⟨hil, ex⟩ := List.getElem?_eq_some_iff.mp hi
      have hx : x ∈ S := by rw [← ex]; exact List.getElem_mem _
      have hxo := hS.2 x hx
      have hxl := box_len hxo
      have hnext : g x = none → ∀ y ∈ S.take (i + 1), g y = none := fun hg y hy => by
        rw [List.take_succ_eq_append_getElem hil, List.mem_append] at hy
        rcases hy with hy | hy
        · exact hno y hy
        · have : y = x := by rw [← ex]; simpa using hy
          rw [this]
          exact hg
      refine ⟨_, tg_tup rfl (tgs_cons (tg_name 2 nd (by decide)) (tgs_cons (tg_name 3 nd (by decide)) (tgs_cons (tg_name 4 nd (by decide)) (tgs_cons (tg_name 5 nd (by decide)) tgs_nil)))), ?_⟩
      refine sb_post ?_
      refine sb_one (s_if (EvT.s (v := Pk.free taken x.some) (et_not (et_val (ev_anyF (xs := x.some) (f := fun c => decide (c ∈ taken)) rfl t.any (ev_lcp (own := [("cell", 7)]) rfl nd (blkOk_by (N := T.N_laid) (sc := defScope T.s_laid) (by decide +kernel))
        (lc_map x.some prN (fun c => .bool (decide (c ∈ taken))) (fun c => _) (EvI.c (ei_list (ev_var 5))) (Nat.lt_of_le_of_lt hxl (by decide)) (fun _ _ _ _ _ c hc => tg_name 7 nd (by decide))
          (fun _ _ _ _ _ c hc => Ev.is (ev_din (D := kdT) (k := ck c) (u1 hr) (ev_var 7) (vv 1) (dicH_of j hj).r) (by rw [takenK_get]))))))) ⟨fun hv => ?_, fun hv => ?_⟩))
      · have hgx : g x = (Pk.laid E (taken ++ x.some)).map (x :: ·) := if_pos hv
        refine sb_cons (s_asg 6 nd (es_dcopy (vv 1) (dicH_of j hj).r (hash_apart _ hT) fun p => ?_))
        have hth : ∀ l, (th ++ [DicS kdT p (takenK l)])[th.length]? = some (DicS kdT p (takenK l)) := fun l => by simp
        refine sb_cons (s_for x.some prN (vs := [7]) (passes_of rfl) rfl (ei_list (ev_var 5))
          (fun k ρ' w' => w' = th ++ [DicS kdT p (takenK (taken ++ x.some.take k))] ∧ ∃ o7 o8, ρ' = [some (.d (everyD (S :: E))), some (.raw (.ref q)), some (.d (.int (x.row : Int))), some (.d (.int (x.col : Int))), some (.d (.int (x.turn : Int))), some (.d (cellsD x.some)), some (.raw (.ref p)), o7, o8]) ⟨by rw [List.take_zero, List.append_nil], _, _, rfl⟩ ?_ ?_)
        · rintro k c ρ' w' hk ⟨rfl, o7, o8, rfl⟩
          obtain ⟨hkl, ec⟩ := List.getElem?_eq_some_iff.mp hk
          have hcm : c ∈ x.some := by rw [← ec]; exact List.getElem_mem _
          have hc1 : c ∉ taken := fun hm => by
            have := hv
            unfold Pk.free at this
            simp only [Bool.not_eq_true', List.any_eq_false, decide_eq_true_eq] at this
            exact this c hcm hm
          have hc2 : c ∉ x.some.take k := fun hm => by
            obtain ⟨a, ha, e⟩ := List.mem_take_iff_getElem.mp hm
            have := (List.getElem_inj (hxo.1)).mp (e.trans ec.symm)
            omega
          refine ⟨_, tg_name 7 nd (by decide), ?_⟩
          refine sb_one (s_dset (D := kdT) (k := ck c) (sv := .d (.bool true)) th.length (u1 hr) (Ev.v ev_bl) (vv 6) (ev_var 7) (hth _) (dicW_S _ _ _) ?_ ⟨?_, some (.d (prN c)), o8, rfl⟩)
          · unfold takenK
            rw [List.length_map, List.length_append, List.length_take]
            have := box_len hT
            exact Nat.lt_of_le_of_lt (show _ ≤ 32 by omega) (by decide)
          · rw [takenK_put (fun hm => (List.mem_append.mp hm).elim hc1 hc2), List.take_succ_eq_append_getElem hkl, ec, List.append_assoc]
            rw [List.set_append_right _ _ (Nat.le_refl _)]
            simp
        · rintro ρ' w' ⟨rfl, o7, o8, rfl⟩
          rw [List.take_length]
          refine sb_cons (s_asg 8 nd (Ev.s (EvV.dat (vcall fn hr (va_cons (Ev.v (Ev.is (ev_cutL (ev_var 0) (ep_some ev_int) ep_none) (cut_tail S E))) (va_one (vv 6))) ⟨th.length, E, taken ++ x.some, p, rfl, hth _, ?_, hE', hT.add hxo hv, rfl⟩)) ?_))
          · simp at hn
            omega
          cases el : Pk.laid E (taken ++ x.some) with
          | none =>
            rw [el] at hgx
            refine sb_one (s_if (EvT.s (v := false) (et_notN (d := .none) (ev_var 8)) ⟨fun hv => (by cases hv), fun _ => ?_⟩))
            exact sb_nil ⟨th, fun F R h => h.drop, rfl, hnext hgx, _, _, _, _, _, _, _, rfl⟩
          | some l =>
            rw [el] at hgx
            have hll := Pk.laid_len _ _ _ el
            refine sb_one (s_if (EvT.s (v := true) (et_notN (d := .list _) (ev_var 8)) ⟨fun _ => ?_, fun hv => (by cases hv)⟩))
            refine sb_one (s_ret (Ev.s (ev_cat (ev_lst (ea_one (ev_tup (ea_cons (ev_var 4) (ea_cons (ev_var 2) (ea_one (ev_var 3))))))) (ev_var 8) ?_) ⟨th, fun F R h => h.drop, ?_⟩))
            · simp at hn
              rw [List.length_map, hll]
              exact Nat.le_trans (show _ ≤ 20 by simp; omega) (by decide)
            · rw [hlaid, Pk.firstSome_at g hno hi hgx] at hq
              exact hq
      · exact sb_nil ⟨th, fun F R h => h, rfl, hnext (if_neg (by rw [hv]; exact Bool.false_ne_true)), some (.d (.int (x.row : Int))), some (.d (.int (x.col : Int))), some (.d (.int (x.turn : Int))), some (.d (cellsD x.some)), o6, o7, o8, rfl⟩
    · rintro ρ' w' ⟨rfl, hno, o2, o3, o4, o5, o6, o7, o8, rfl⟩
      rw [List.take_length] at hno
      refine sb_one (s_ret (Ev.s ev_non ?_))
      rw [hlaid, Pk.firstSome_no g hno] at hq
      exact hq
end
end G
end

section
set_option Elab.async false
set_option linter.all false
set_option maxRecDepth 100000
set_option maxHeartbeats 4000000
/-! ### packing: ways, packing -/
namespace G
open PySem PySem.Spec PyProof.Rows L2 Sh
def shE : Mx ⊕ List Str → PyData
  | .inl m => shD m.enc
  | .inr rows => shD rows
def everyM (ms : List Mx) (R C : Nat) (may : Bool) : List (List Pk.Spot) := ms.map fun m => Pk.spots m R C (tsOf m may)
def shsD (ms : List Mx) : PyData := .list (ms.map fun m => shD m.enc)
theorem cellsAt_nodup (m : Mx) (t r c : Nat) : (Pk.cellsAt m t r c).Nodup := by
  have h := Sh.cells_nodup (Mx.turnN (t % 4) m)
  refine List.Pairwise.map _ (fun a b hab e => hab ?_) h
  have e1 : r + a.1 = r + b.1 := congrArg Prod.fst e
  have e2 : c + a.2 = c + b.2 := congrArg Prod.snd e
  exact Prod.ext (by omega) (by omega)
theorem spot_ok {m : Mx} {R C : Nat} {ts : List Nat} {s : Pk.Spot} (h : s ∈ Pk.spots m R C ts) : s.row < R ∧ s.col < C ∧ s.turn ∈ ts ∧ s.some = Pk.cellsAt m s.turn s.row s.col ∧ Pk.fitsAt m R C s.turn s.row s.col = true := by
  unfold Pk.spots Pk.spotsR Pk.spotsC Pk.spotsT at h
  obtain ⟨r, hr, h⟩ := List.mem_flatMap.mp h
  obtain ⟨c, hc, h⟩ := List.mem_flatMap.mp h
  obtain ⟨u, hu, rfl⟩ := List.mem_map.mp h
  obtain ⟨hu, hf⟩ := List.mem_filter.mp hu
  exact ⟨List.mem_range.mp hr, List.mem_range.mp hc, hu, rfl, hf⟩
theorem okE_every {ms : List Mx} {R C : Nat} {may : Bool} (hR : R ≤ 4) (hC : C ≤ 4) : OkE (everyM ms R C may) := fun S hS => by
  obtain ⟨m, hm, rfl⟩ := List.mem_map.mp hS
  refine ⟨?_, fun s hs => ?_⟩
  · have h1 := Pk.spotsR_len m R C (tsOf m may) R
    have h5 : C * (tsOf m may).length ≤ 4 * 4 := Nat.mul_le_mul hC (tsOf_len m may)
    have h6 : R * (C * (tsOf m may).length) ≤ 4 * 16 := Nat.mul_le_mul hR h5
    exact Nat.le_trans h1 (by omega)
  · obtain ⟨_, _, _, e, hf⟩ := spot_ok hs
    rw [e]
    refine ⟨cellsAt_nodup _ _ _ _, fun c hc => ?_⟩
    have := List.all_eq_true.mp hf c hc
    simp only [Pk.inB, Bool.and_eq_true, decide_eq_true_eq] at this
    exact ⟨by omega, by omega⟩
def waysM (ms : List Mx) (R C : Nat) (may : Bool) : Nat := Pk.ways (everyM ms R C may) []
def packM (ms : List Mx) (R C : Nat) (may : Bool) : Option (List Pk.Spot) := if R * C < (ms.map fun m => m.cells.length).sum then none else Pk.laid (everyM ms R C may) []
def waysR : List Sv → List Thing → ResS → Prop := fun svs w r => ∃ (ms : List Mx) (R C : Int) (may : Bool), (∀ m ∈ ms, m.Good) ∧ ms.length ≤ 1000 ∧ svs = [.d (shsD ms), .d (.int R), .d (.int C), .d (.bool may)] ∧ r = if badP ms.length R C 4 then .ex "BadNumber" else .ok (.d (.int ((waysM ms R.toNat C.toNat may : Nat) : Int)))
def badShs (ms : List Mx) (rows : List Str) : PyData := .list (((ms.map Sum.inl ++ [Sum.inr rows] : List (Mx ⊕ List Str))).map shE)
/-- shapes, the last of which is none -/
def BadIn (most : Nat) (svs : List Sv) (r : ResS) : Prop := ∃ (ms : List Mx) (rows : List Str) (R C : Nat), (∀ m ∈ ms, m.Good) ∧ ms.length < most ∧ rows.length ≤ 100 ∧ (∀ z ∈ rows, z.length ≤ 100) ∧ goodS rows = false ∧ 1 ≤ R ∧ R ≤ 4 ∧ 1 ≤ C ∧ C ≤ 4 ∧ svs = [.d (badShs ms rows), .d (.int (R : Int)), .d (.int (C : Int)), .d (.bool true)] ∧ r = .ex "BadShape"
def packR : List Sv → List Thing → ResS → Prop := fun svs w r => ∃ (ms : List Mx) (R C : Int) (may : Bool), (∀ m ∈ ms, m.Good) ∧ ms.length ≤ 1000 ∧ svs = [.d (shsD ms), .d (.int R), .d (.int C), .d (.bool may)] ∧ r = if badP ms.length R C 5 then .ex "BadNumber" else .ok (.d (wayD (packM ms R.toNat C.toNat may)))
theorem good_of {n : Nat} {R C most : Int} (h : badP n R C most = false) : (n : Int) ≤ most ∧ ∃ r c : Nat, R = (r : Int) ∧ C = (c : Int) ∧ 1 ≤ r ∧ r ≤ 4 ∧ 1 ≤ c ∧ c ≤ 4 := by
  unfold badP at h
  simp only [Bool.or_eq_false_iff, Bool.not_eq_false', Bool.and_eq_true, decide_eq_true_eq, decide_eq_false_iff_not] at h
  obtain ⟨h1, ⟨h2, h3⟩, h4, h5⟩ := h
  exact ⟨by omega, R.toNat, C.toNat, by omega, by omega, by omega, by omega, by omega, by omega⟩
theorem sum_cast {α : Type} (f : α → Nat) : ∀ l : List α, (l.map fun x => (f x : Int)).sum = ((l.map f).sum : Nat)
  | [] => rfl
  | x :: l => by
    rw [List.map_cons, List.sum_cons, List.map_cons, List.sum_cons, sum_cast f l]
    omega
theorem sum_lt (ms : List Mx) (rr cc : Nat) : ((rr : Int) * (cc : Int)) < (ms.map fun m => (m.cells.length : Int)).sum ↔ rr * cc < (ms.map fun m => m.cells.length).sum := by
  rw [sum_cast (fun m : Mx => m.cells.length), ← Int.natCast_mul]
  omega
def packRX : List Sv → List Thing → ResS → Prop := fun svs w r => packR svs w r ∨ BadIn 5 svs r
def waysRX : List Sv → List Thing → ResS → Prop := fun svs w r => waysR svs w r ∨ BadIn 4 svs r
theorem badP_no {n : Nat} {R C : Nat} {most : Int} (h : (n : Int) ≤ most) (h1 : 1 ≤ R) (h2 : R ≤ 4) (h3 : 1 ≤ C) (h4 : C ≤ 4) : (if badP n (R : Int) (C : Int) most = true then Res.ex "BadNumber" else .ok .none) = .ok .none := by
  have : badP n (R : Int) (C : Int) most = false := by
    unfold badP
    simp only [Bool.or_eq_false_iff, Bool.not_eq_false', Bool.and_eq_true, decide_eq_true_eq, decide_eq_false_iff_not]
    omega
  rw [this]
  rfl
section
variable {P : Program} {w : World} {K : PySem.W.Frag} {mg : Str → Option Value} {base : Heap} {CA : Str → Addr}
abbrev LookPF (P : Program) (w : World) (K : PySem.W.Frag) (mg : Str → Option Value) (base : Heap) (CA : Str → Addr) : Prop := FnF P w K mg base 1 "look_packing" (lift CA (pmD relLookP))
abbrev SpotsF (P : Program) (w : World) (K : PySem.W.Frag) (mg : Str → Option Value) (base : Heap) (CA : Str → Addr) : Prop := FnF P w K mg base 4 "spots" (lift CA (pmD relSpotsX))
theorem cw_all (t : TxtS K mg CA) (D : DefT K mg "count_ways" T.s_count_ways) : ∀ n, FnF P w K mg base (n + 1) "count_ways" (lift CA (pmW (rdo (cwR n))))
  | 0 => cw_base D
  | n + 1 => cw_step t (cw_all t D n) D
theorem laid_all (t : TxtS K mg CA) (D : DefT K mg "laid" T.s_laid) : ∀ n, n ≤ 10 → FnF P w K mg base (n + 1) "laid" (lift CA (pmW (rdo (laidR n))))
  | 0, _ => laid_base D
  | n + 1, h => laid_step (by omega) t (laid_all t D n (by omega)) D
theorem ok_ways (t : TxtS K mg CA) (tp : TxtP K mg CA) (fl : LookPF P w K mg base CA) (fs : SpotsF P w K mg base CA) (fc : FnF P w K mg base 5 "count_ways" (lift CA (pmW (rdo (cwR 4))))) (D : DefT K mg "ways" T.s_ways) : FnF P w K mg base 6 "ways" (lift CA (pmW (rdo waysRX))) := by
  refine mkW D T.sc_ways ?_ (fun f cdv A outer s H E0 R0 svs th Q hr h => ?_) fun _ _ _ _ _ _ us hl => match us, hl with | [_, _, _, _], _ => rfl
  · rintro svs th Q ⟨_, ⟨_, _, _, _, _, _, rfl, _⟩ | ⟨_, _, _, _, _, _, _, _, _, _, _, _, _, rfl, _⟩, _⟩ <;> rfl
  have nd := T.sc_ways.nd
  obtain ⟨r, h | ⟨ms, rows, R, C, hg, hml, l1, l2, bad, R1, R4, C1, C4, rfl, rfl⟩, hq⟩ := h
  rotate_left
  · refine sb_cons (s_expr (es_callD fl (hr.mono (by decide)) (ea_cons (ev_var 0) (ea_cons (ev_var 1) (ea_cons (ev_var 2) (ea_one (ev_gint tp.mc))))) ⟨_, (R : Int), (C : Int), 4, rfl, by rw [List.length_map, List.length_append, List.length_map, List.length_singleton]; omega, by rw [badP_no (by rw [List.length_map, List.length_append, List.length_map, List.length_singleton]; omega) R1 R4 C1 C4]⟩ (fun d e => ?_) (fun c e => by cases e)))
    refine sb_one (s_ret (es_callW fc hr (esa_cons (es_lcX (own := [("shape", 4)]) rfl rfl rfl nd (blkOk_by (N := T.N_ways) (sc := defScope T.s_ways) (by decide +kernel)) (lcX shE (esi_list (Ev.s (ev_var 0) ⟨_, rfl, ms.map Sum.inl ++ [Sum.inr rows], rfl, ?_, (fun x => [some (.d (badShs ms rows)), some (.d (.int (R : Int))), some (.d (.int (C : Int))), some (.d (.bool true)), some (.d (shE x))]), (fun i acc w' => th = w' ∧ i ≤ ms.length), ⟨rfl, Nat.zero_le _⟩, ?_, ?_⟩)))))))
    · rw [List.length_append, List.length_map, List.length_singleton]
      exact Nat.lt_of_le_of_lt (show _ ≤ 10 by omega) (by decide)
    · rintro i x acc w' hi ⟨rfl, hi2⟩
      refine ⟨fun _ _ _ _ _ => tg_name 4 nd (by decide), fun _ _ _ _ _ => ests_nil ⟨fun _ _ _ _ _ _ pn xe => ?_, fun hb => (by cases hb)⟩⟩
      by_cases hl : i < ms.length
      · rw [List.getElem?_append_left (by rw [List.length_map]; exact hl), List.getElem?_map, List.getElem?_eq_getElem hl] at hi
        cases hi
        exact es_callD fs (hr.mono (by decide)) (ea_cons (ev_var 4) (ea_cons (ev_var 1) (ea_cons (ev_var 2) (ea_one (ev_var 3))))) (.inl ⟨ms[i], R, C, true, hg _ (List.getElem_mem _), R4, C4, rfl, rfl⟩) (fun d e => ⟨d, rfl, rfl, hl⟩) (fun c e => by cases e)
      · have : i = ms.length := by omega
        subst this
        rw [List.getElem?_append_right (by rw [List.length_map]; exact Nat.le_refl _)] at hi
        simp at hi
        subst hi
        exact es_callD fs (hr.mono (by decide)) (ea_cons (ev_var 4) (ea_cons (ev_var 1) (ea_cons (ev_var 2) (ea_one (ev_var 3))))) (.inr ⟨rows, R, C, l1, l2, bad, R1, R4, C1, C4, rfl, rfl⟩) (fun d e => by cases e) (fun c e => by cases e; exact hq)
    · rintro acc w' ⟨_, hi2⟩
      rw [List.length_append, List.length_map, List.length_singleton] at hi2
      omega
  obtain ⟨ms, R, C, may, hg, hml, rfl, rfl⟩ := h
  refine sb_post ?_
  refine sb_cons (s_expr (es_callD fl (hr.mono (by decide)) (ea_cons (ev_var 0) (ea_cons (ev_var 1) (ea_cons (ev_var 2) (ea_one (ev_gint tp.mc))))) ⟨_, R, C, 4, rfl, by rw [List.length_map]; exact hml, rfl⟩ (fun d e => ?_) (fun c e => ?_)))
  · rw [List.length_map] at e
    cases hb : badP ms.length R C 4 with
    | true =>
      rw [hb] at e
      cases e
    | false =>
      rw [hb] at hq
      obtain ⟨hn, rr, cc, rfl, rfl, h1, h2, h3, h4⟩ := good_of hb
      refine sb_one (s_ret (es_callW fc hr (esa_cons (Ev.s (d := everyD (everyM ms rr cc may)) (Ev.is (ev_lcp (own := [("shape", 4)]) rfl nd (blkOk_by (N := T.N_ways) (sc := defScope T.s_ways) (by decide +kernel))
        (lc_map ms (fun m => shD m.enc) (fun m => spotsD (Pk.spots m rr cc (tsOf m may))) (fun m => _) (EvI.c (ei_list (ev_var 0))) (Nat.lt_of_le_of_lt hml (by decide)) (fun _ _ _ _ _ m hm => tg_name 4 nd (by decide))
          (fun _ _ _ _ _ m hm => ev_call fs (hr.mono (by decide)) (ea_cons (ev_var 4) (ea_cons (ev_var 1) (ea_cons (ev_var 2) (ea_one (ev_var 3))))) (.inl ⟨m, rr, cc, may, hg m hm, h2, h4, rfl, rfl⟩)))) ?_)
        (esa_cons (es_dnew kdT fun q => esa_nil ⟨_, ⟨th.length, everyM ms rr cc may, [], q, rfl, by simp [takenK], ?_, okE_every h2 h4, ⟨List.nodup_nil, fun c hc => (by cases hc)⟩, rfl⟩, th, fun F R h => h.drop, hq⟩))))))
      · unfold everyD everyM
        rw [List.map_map]
        rfl
      · unfold everyM
        rw [List.length_map]
        omega
  · rw [List.length_map] at e
    cases hb : badP ms.length R C 4 with
    | true =>
      rw [hb] at e hq
      cases e
      exact ⟨th, fun F R h => h, hq⟩
    | false =>
      rw [hb] at e
      cases e
theorem ok_packing (t : TxtS K mg CA) (tp : TxtP K mg CA) (fl : LookPF P w K mg base CA) (fs : SpotsF P w K mg base CA) (fce : CellsF P w K mg base CA) (fc : FnF P w K mg base 6 "laid" (lift CA (pmW (rdo (laidR 5))))) (D : DefT K mg "packing" T.s_packing) : FnF P w K mg base 7 "packing" (lift CA (pmW (rdo packRX))) := by
  refine mkW D T.sc_packing ?_ (fun f cdv A outer s H E0 R0 svs th Q hr h => ?_) fun _ _ _ _ _ _ us hl => match us, hl with | [_, _, _, _], _ => rfl
  · rintro svs th Q ⟨_, ⟨_, _, _, _, _, _, rfl, _⟩ | ⟨_, _, _, _, _, _, _, _, _, _, _, _, _, rfl, _⟩, _⟩ <;> rfl
  have nd := T.sc_packing.nd
  obtain ⟨r, h | ⟨ms, rows, R, C, hg, hml, l1, l2, bad, R1, R4, C1, C4, rfl, rfl⟩, hq⟩ := h
  rotate_left
  · refine sb_cons (s_expr (es_callD fl (hr.mono (by decide)) (ea_cons (ev_var 0) (ea_cons (ev_var 1) (ea_cons (ev_var 2) (ea_one (ev_gint tp.mh))))) ⟨_, (R : Int), (C : Int), 5, rfl, by rw [List.length_map, List.length_append, List.length_map, List.length_singleton]; omega, by rw [badP_no (by rw [List.length_map, List.length_append, List.length_map, List.length_singleton]; omega) R1 R4 C1 C4]⟩ (fun d e => ?_) (fun c e => by cases e)))
    refine sb_cons (s_asgCX (own := [("shape", 5)]) 4 rfl rfl rfl nd (blkOk_by (N := T.N_packing) (sc := defScope T.s_packing) (by decide +kernel)) (lcX shE (esi_list (Ev.s (ev_var 0) ⟨_, rfl, ms.map Sum.inl ++ [Sum.inr rows], rfl, ?_, (fun x => [some (.d (badShs ms rows)), some (.d (.int (R : Int))), some (.d (.int (C : Int))), some (.d (.bool true)), none, some (.d (shE x))]), (fun i acc w' => th = w' ∧ i ≤ ms.length), ⟨rfl, Nat.zero_le _⟩, ?_, ?_⟩))))
    · rw [List.length_append, List.length_map, List.length_singleton]
      exact Nat.lt_of_le_of_lt (show _ ≤ 10 by omega) (by decide)
    · rintro i x acc w' hi ⟨rfl, hi2⟩
      refine ⟨fun _ _ _ _ _ => tg_name 5 nd (by decide), fun _ _ _ _ _ => ests_nil ⟨fun _ _ _ _ _ _ pn xe => ?_, fun hb => (by cases hb)⟩⟩
      by_cases hl : i < ms.length
      · rw [List.getElem?_append_left (by rw [List.length_map]; exact hl), List.getElem?_map, List.getElem?_eq_getElem hl] at hi
        cases hi
        exact es_callD fs (hr.mono (by decide)) (ea_cons (ev_var 5) (ea_cons (ev_var 1) (ea_cons (ev_var 2) (ea_one (ev_var 3))))) (.inl ⟨ms[i], R, C, true, hg _ (List.getElem_mem _), R4, C4, rfl, rfl⟩) (fun d e => ⟨d, rfl, rfl, hl⟩) (fun c e => by cases e)
      · have : i = ms.length := by omega
        subst this
        rw [List.getElem?_append_right (by rw [List.length_map]; exact Nat.le_refl _)] at hi
        simp at hi
        subst hi
        exact es_callD fs (hr.mono (by decide)) (ea_cons (ev_var 5) (ea_cons (ev_var 1) (ea_cons (ev_var 2) (ea_one (ev_var 3))))) (.inr ⟨rows, R, C, l1, l2, bad, R1, R4, C1, C4, rfl, rfl⟩) (fun d e => by cases e) (fun c e => by cases e; exact hq)
    · rintro acc w' ⟨_, hi2⟩
      rw [List.length_append, List.length_map, List.length_singleton] at hi2
      omega
  obtain ⟨ms, R, C, may, hg, hml, rfl, rfl⟩ := h
  refine sb_post ?_
  refine sb_cons (s_expr (es_callD fl (hr.mono (by decide)) (ea_cons (ev_var 0) (ea_cons (ev_var 1) (ea_cons (ev_var 2) (ea_one (ev_gint tp.mh))))) ⟨_, R, C, 5, rfl, by rw [List.length_map]; exact hml, rfl⟩ (fun d e => ?_) (fun c e => ?_)))
  · rw [List.length_map] at e
    cases hb : badP ms.length R C 5 with
    | true =>
      rw [hb] at e
      cases e
    | false =>
      rw [hb] at hq
      obtain ⟨hn, rr, cc, rfl, rfl, h1, h2, h3, h4⟩ := good_of hb
      refine sb_cons (s_asgC (own := [("shape", 5)]) 4 rfl nd (blkOk_by (N := T.N_packing) (sc := defScope T.s_packing) (by decide +kernel))
        (lc_map ms (fun m => shD m.enc) (fun m => spotsD (Pk.spots m rr cc (tsOf m may))) (fun m => _) (EvI.c (ei_list (ev_var 0))) (Nat.lt_of_le_of_lt hml (by decide)) (fun _ _ _ _ _ m hm => tg_name 5 nd (by decide))
          (fun _ _ _ _ _ m hm => ev_call fs (hr.mono (by decide)) (ea_cons (ev_var 5) (ea_cons (ev_var 1) (ea_cons (ev_var 2) (ea_one (ev_var 3))))) (.inl ⟨m, rr, cc, may, hg m hm, h2, h4, rfl, rfl⟩))) ?_)
      have ee : PyData.list (ms.map fun m => spotsD (Pk.spots m rr cc (tsOf m may))) = everyD (everyM ms rr cc may) := by
        unfold everyD everyM
        rw [List.map_map]
        rfl
      rw [ee]
      refine sb_cons (s_if (EvT.s (v := decide (((rr : Int) * (cc : Int)) < (ms.map fun m => (m.cells.length : Int)).sum)) (et_gt (ev_sum (ns := ms.map fun m => (m.cells.length : Int)) rfl tp.sum (Ev.is (ev_lcp (own := [("shape", 5)]) rfl nd (blkOk_by (N := T.N_packing) (sc := defScope T.s_packing) (by decide +kernel))
        (lc_map ms (fun m => shD m.enc) (fun m => .int (m.cells.length : Int)) (fun m => _) (EvI.c (ei_list (ev_var 0))) (Nat.lt_of_le_of_lt hml (by decide)) (fun _ _ _ _ _ m hm => tg_name 5 nd (by decide))
          (fun _ _ _ _ _ m hm => Ev.is (ev_lenL t.len (ev_call fce (hr.mono (by decide)) (ea_one (ev_var 5)) (cells_good (hg m hm)))) (by rw [List.length_map])))) (by rw [List.map_map]; rfl))) (ev_mul (ev_var 1) (ev_var 2) (.inl ⟨by omega, by omega⟩))) ⟨fun hv => ?_, fun hv => ?_⟩))
      · refine sb_one (s_ret (Ev.s ev_non ⟨th, fun F R h => h, ?_⟩))
        have hp : packM ms ((rr : Int).toNat) ((cc : Int).toNat) may = none := by
          unfold packM
          rw [Int.toNat_natCast, Int.toNat_natCast, if_pos ((sum_lt ms rr cc).mp (of_decide_eq_true hv))]
        rw [hp] at hq
        exact hq
      · refine sb_nil ?_
        refine sb_one (s_ret (es_callW fc hr (esa_cons (Ev.s (ev_var 4) 
          (esa_cons (es_dnew kdT fun q => esa_nil ⟨_, ⟨th.length, everyM ms rr cc may, [], q, rfl, by simp [takenK], ?_, okE_every h2 h4, ⟨List.nodup_nil, fun c hc => (by cases hc)⟩, rfl⟩, th, fun F R h => h.drop, ?_⟩))))))
        · unfold everyM
          rw [List.length_map]
          omega
        · have hp : packM ms ((rr : Int).toNat) ((cc : Int).toNat) may = Pk.laid (everyM ms rr cc may) [] := by
            unfold packM
            rw [Int.toNat_natCast, Int.toNat_natCast, if_neg (fun z => of_decide_eq_false hv ((sum_lt ms rr cc).mpr z))]
          rw [hp] at hq
          exact hq
  · rw [List.length_map] at e
    cases hb : badP ms.length R C 5 with
    | true =>
      rw [hb] at e hq
      cases e
      exact ⟨th, fun F R h => h, hq⟩
    | false =>
      rw [hb] at e
      cases e
end
end G
end

section
set_option Elab.async false
set_option linter.all false
set_option maxRecDepth 100000
set_option maxHeartbeats 4000000
/-! ### k52: what is asked of ways -/
namespace G
open PySem PySem.Spec PyProof.Rows L2 Sh
theorem ways_revM (ms : List Mx) (R C : Nat) (may : Bool) : waysM ms.reverse R C may = waysM ms R C may := by
  unfold waysM everyM
  rw [List.map_reverse]
  exact Pk.ways_rev _ _
theorem looks_has (m : Mx) : ∀ n k, k < n → ∃ u ∈ looksTo m n, (Mx.turnN u m).enc = (Mx.turnN k m).enc
  | 0, k, h => by omega
  | n + 1, k, h => by
    unfold looksTo
    by_cases hk : k < n
    · obtain ⟨u, hu, e⟩ := looks_has m n k hk
      split
      · exact ⟨u, hu, e⟩
      · exact ⟨u, List.mem_append_left _ hu, e⟩
    · have : k = n := by omega
      subst this
      split
      · rename_i ha
        obtain ⟨u, hu, e⟩ := List.any_eq_true.mp ha
        exact ⟨u, hu, of_decide_eq_true e⟩
      · exact ⟨k, List.mem_append_right _ (by simp), rfl⟩
theorem looks_apart (m : Mx) : ∀ n, ∀ u ∈ looksTo m n, ∀ v ∈ looksTo m n, (Mx.turnN u m).enc = (Mx.turnN v m).enc → u = v
  | 0, u, h, _, _, _ => by cases h
  | n + 1, u, hu, v, hv, e => by
    unfold looksTo at hu hv
    split at hu
    · rename_i ha
      rw [if_pos ha] at hv
      exact looks_apart m n u hu v hv e
    · rename_i ha
      rw [if_neg ha] at hv
      have hno : ∀ k ∈ looksTo m n, (Mx.turnN k m).enc ≠ (Mx.turnN n m).enc := fun k hk z => ha (List.any_eq_true.mpr ⟨k, hk, decide_eq_true z⟩)
      rcases List.mem_append.mp hu with hu | hu <;> rcases List.mem_append.mp hv with hv | hv
      · exact looks_apart m n u hu v hv e
      · have : v = n := by simpa using hv
        subst this
        exact absurd e (hno u hu)
      · have : u = n := by simpa using hu
        subst this
        exact absurd e.symm (hno v hv)
      · have h1 : u = n := by simpa using hu
        have h2 : v = n := by simpa using hv
        rw [h1, h2]
theorem looks_nodup (m : Mx) : ∀ n, (looksTo m n).Nodup
  | 0 => List.nodup_nil
  | n + 1 => by
    unfold looksTo
    split
    · exact looks_nodup m n
    · refine List.nodup_append.mpr ⟨looks_nodup m n, by simp, fun a ha b hb e => ?_⟩
      have := looksTo_lt m n a ha
      have : b = n := by simpa using hb
      omega
theorem looks_zero (m : Mx) : ∀ n, [0].Sublist (looksTo m (n + 1))
  | 0 => by
    unfold looksTo
    split
    · rename_i ha
      simp [looksTo] at ha
    · exact List.Sublist.refl _
  | n + 1 => by
    unfold looksTo
    split
    · exact looks_zero m n
    · exact (looks_zero m n).trans (List.sublist_append_left _ _)
theorem ways_may (ms : List Mx) (R C : Nat) : waysM ms R C false ≤ waysM ms R C true := Pk.ways_mono _ _ (fun m _ => Pk.spots_ts m R C (looks_zero m 3)) _
theorem ways_more (ms : List Mx) (R C : Nat) (may : Bool) : waysM ms R C may ≤ waysM ms (R + 1) C may := Pk.ways_mono _ _ (fun m _ => Pk.spots_rows m R C _) _
theorem cellsAt_len {m : Mx} (g : m.Good) (u r c : Nat) : (Pk.cellsAt m u r c).length = m.cells.length := by
  unfold Pk.cellsAt
  rw [List.length_map]
  generalize u % 4 = k
  induction k with
  | zero => rfl
  | succ k ih => 
    rw [← ih]
    have := (Sh.turn_perm (Mx.turnN k m)).length_eq
    rw [List.length_map] at this
    exact this.symm
theorem pack_none {ms : List Mx} (hg : ∀ m ∈ ms, m.Good) (R C : Nat) (may : Bool) : packM ms R C may = none ↔ waysM ms R C may = 0 := by
  unfold packM
  split
  · rename_i h
    refine ⟨fun _ => ?_, fun _ => rfl⟩
    false_or_by_contra
    rename_i hne
    have := Pk.area_le R C (fun m => Pk.spots m R C (tsOf m may)) (fun m => m.cells.length) (l := ms) (fun m hm s hs => by
      obtain ⟨_, _, _, e, hf⟩ := spot_ok hs
      rw [e]
      refine ⟨cellsAt_len (hg m hm) _ _ _, cellsAt_nodup _ _ _ _, fun c hc => ?_⟩
      have := List.all_eq_true.mp hf c hc
      simp only [Pk.inB, Bool.and_eq_true, decide_eq_true_eq] at this
      exact Pk.mem_box.mpr this) (t := []) List.nodup_nil (fun c hc => by cases hc) hne
    rw [List.length_nil] at this
    omega
  · exact Pk.laid_none _ _
theorem inj_rot (R : Nat) (a b : Pk.Cell) (ha : a.1 < R) (hb : b.1 < R) (e : (fun p : Pk.Cell => (p.2, R - 1 - p.1)) a = (fun p : Pk.Cell => (p.2, R - 1 - p.1)) b) : a = b := by
  have e1 : a.2 = b.2 := congrArg Prod.fst e
  have e2 : R - 1 - a.1 = R - 1 - b.1 := congrArg Prod.snd e
  exact Prod.ext (by omega) e1
theorem ways_quarter {ms : List Mx} (hg : ∀ m ∈ ms, m.Good) (R C : Nat) : waysM (ms.map fun m => m.turn) C R false = waysM ms R C false := by
  unfold waysM everyM
  rw [List.map_map]
  refine (Pk.ways_rot (fun p : Pk.Cell => (p.2, R - 1 - p.1)) (fun c => c.1 < R) (inj_rot R) (fun m => Pk.spots m R C (tsOf m false)) _ (fun m hm => ?_) (fun c hc => by cases hc) (fun c => by simp)).symm
  exact Pk.rot_spots (hg m hm) (hg m hm).turn (by simp [tsOf]) (by simp [tsOf]) id (fun u hu => ⟨hu, by
    have : u = 0 := by simpa [tsOf] using hu
    subst this
    rfl⟩) (fun u _ v _ e => e) (fun v hv => ⟨v, hv, rfl⟩)
def tau (m : Mx) (u : Nat) : Nat := ((turnsM m).find? fun v => decide ((Mx.turnN v m).enc = (Mx.turnN (u + 1) m).enc)).getD 0
theorem tau_ok {m : Mx} (g : m.Good) (u : Nat) : tau m u ∈ turnsM m ∧ (Mx.turnN (tau m u) m).enc = (Mx.turnN (u + 1) m).enc := by
  obtain ⟨v, hv, e⟩ := looks_has m 4 ((u + 1) % 4) (by omega)
  rw [← Mx.turnN_mod g] at e
  unfold tau
  cases q : (turnsM m).find? fun v => decide ((Mx.turnN v m).enc = (Mx.turnN (u + 1) m).enc) with
  | none =>
    have := List.find?_eq_none.mp q v hv
    simp [e] at this
  | some x =>
    have h := List.find?_some q
    exact ⟨List.mem_of_find?_eq_some q, of_decide_eq_true h⟩
theorem turn_back {m : Mx} (g : m.Good) {u v : Nat} (h : (Mx.turnN (u + 1) m).enc = (Mx.turnN (v + 1) m).enc) : (Mx.turnN u m).enc = (Mx.turnN v m).enc := by
  have h1 := Mx.turnN_cong (g.turnN (u + 1)) (g.turnN (v + 1)) h 3
  rw [← Mx.turnN_add, ← Mx.turnN_add, Mx.turnN_mod g, Mx.turnN_mod g (3 + (v + 1))] at h1
  rw [Mx.turnN_mod g u, Mx.turnN_mod g v]
  rw [show (3 + (u + 1)) % 4 = u % 4 by omega, show (3 + (v + 1)) % 4 = v % 4 by omega] at h1
  exact h1
theorem ways_turned {ms : List Mx} (hg : ∀ m ∈ ms, m.Good) (R C : Nat) : waysM ms C R true = waysM ms R C true := by
  unfold waysM everyM
  refine (Pk.ways_rot (fun p : Pk.Cell => (p.2, R - 1 - p.1)) (fun c => c.1 < R) (inj_rot R) (fun m => Pk.spots m R C (tsOf m true)) _ (fun m hm => ?_) (fun c hc => by cases hc) (fun c => by simp)).symm
  have g := hg m hm
  have lt := looksTo_lt m 4
  refine Pk.rot_spots g g (looks_nodup m 4) (looks_nodup m 4) (tau m) (fun u hu => ?_) (fun u hu v hv e => ?_) (fun v hv => ?_)
  · obtain ⟨h1, h2⟩ := tau_ok g u
    refine ⟨h1, ?_⟩
    rw [Nat.mod_eq_of_lt (lt _ h1), Nat.mod_eq_of_lt (lt u hu)]
    exact (Mx.enc_cells (g.turnN _) (g.turnN u).turn).mp h2
  · have h1 := (tau_ok g u).2
    have h2 := (tau_ok g v).2
    rw [e, h2] at h1
    exact looks_apart m 4 u hu v hv (turn_back g h1.symm)
  · obtain ⟨u, hu, e⟩ := looks_has m 4 ((v + 3) % 4) (by omega)
    refine ⟨u, hu, looks_apart m 4 _ (tau_ok g u).1 v hv ?_⟩
    rw [(tau_ok g u).2]
    rw [← Mx.turnN_mod g] at e
    have := Mx.turn_cong (g.turnN u) (g.turnN (v + 3)) e
    show (Mx.turnN u m).turn.enc = _
    rw [this]
    show (Mx.turnN (v + 3 + 1) m).enc = _
    rw [Mx.turnN_mod g, Mx.turnN_mod g v]
    rw [show (v + 3 + 1) % 4 = v % 4 by omega]
/-! single cells -/
def one1 : Mx := ⟨1, 1, fun _ _ => true⟩
theorem one_good : one1.Good := ⟨by decide, by decide, by decide, by decide, ⟨0, by decide, rfl⟩, ⟨0, by decide, rfl⟩, ⟨0, by decide, rfl⟩, ⟨0, by decide, rfl⟩⟩
theorem one_enc : one1.enc = [("#" : Str)] := by decide +kernel
theorem one_turns : turnsM one1 = [0] := by decide +kernel
theorem flat_ones {α β : Type} (f : α → β) : ∀ l : List α, (l.flatMap fun x => [f x]) = l.map f
  | [] => rfl
  | x :: l => by rw [List.flatMap_cons, flat_ones f l]; rfl
theorem one_spots (R C : Nat) : (Pk.spots one1 R C (tsOf one1 true)).map (·.some) = (Pk.box R C).map fun c => [c] := by
  show (Pk.spots one1 R C (turnsM one1)).map _ = _
  rw [one_turns]
  unfold Pk.spots Pk.spotsR Pk.spotsC Pk.box
  rw [List.map_flatMap, List.map_flatMap]
  have e : ∀ r ∈ List.range R, ((List.range C).flatMap fun c => Pk.spotsT one1 R C r c [0]).map (·.some) = ((List.range C).map fun j => (r, j)).map fun c => [c] := fun r hr => by
    rw [List.map_flatMap, List.map_map]
    rw [← flat_ones]
    have e2 : ∀ c ∈ List.range C, (Pk.spotsT one1 R C r c [0]).map (·.some) = [[(r, c)]] := fun c hc => by
      have hf : Pk.fitsAt one1 R C 0 r c = true := by
        rw [Pk.fits_iff one_good]
        have h1 := List.mem_range.mp hr
        have h2 := List.mem_range.mp hc
        show r + 1 ≤ R ∧ c + 1 ≤ C
        omega
      unfold Pk.spotsT
      rw [List.filter_cons_of_pos (by exact hf)]
      rfl
    rw [List.flatMap_def, List.flatMap_def]
    congr 1
    exact List.map_congr_left e2
  rw [List.flatMap_def, List.flatMap_def]
  congr 1
  exact List.map_congr_left e
theorem ways_ones (R C k : Nat) : ((waysM (List.replicate k one1) R C true : Nat) : Int) = Pk.fallI (R * C) k := by
  unfold waysM everyM
  rw [List.map_replicate, Pk.falls (one_spots R C) k List.nodup_nil (fun c hc => by cases hc), Pk.desc_int]
  rfl
theorem fall_nonneg (n k : Nat) : 0 ≤ Pk.fallI n k := by
  rw [← Pk.desc_int]
  omega
end G
end

section
set_option Elab.async false
set_option linter.all false
set_option maxRecDepth 100000
set_option maxHeartbeats 4000000
/-! ### k51, plain: packings put into bags -/
namespace G
open PySem PySem.Spec PyProof.Rows L2 Sh
def cz1 (c : Pk.Cell) : Cz := ((c.1 : Int), (c.2 : Int))
theorem cz1_inj {a b : Pk.Cell} (h : cz1 a = cz1 b) : a = b := by
  have h1 := (Prod.mk.inj h).1
  have h2 := (Prod.mk.inj h).2
  exact Prod.ext (by omega) (by omega)
theorem cz1_mem {d : Pk.Cell} {l : List Pk.Cell} : cz1 d ∈ l.map cz1 ↔ d ∈ l := by
  constructor
  · intro h
    obtain ⟨e, he, e2⟩ := List.mem_map.mp h
    rw [← cz1_inj e2]
    exact he
  · exact fun h => List.mem_map.mpr ⟨d, h, rfl⟩
theorem cz_at (m : Mx) (t r c : Nat) : cellsZ m t (r : Int) (c : Int) = (Pk.cellsAt m t r c).map cz1 := by
  unfold cellsZ Pk.cellsAt
  rw [List.map_map]
  refine List.map_congr_left fun p _ => ?_
  show ((r : Int) + (p.1 : Int), (c : Int) + (p.2 : Int)) = (((r + p.1 : Nat) : Int), ((c + p.2 : Nat) : Int))
  rw [Int.natCast_add, Int.natCast_add]
/-! names and kinds -/
def nmA (i : Nat) : Str := ⟨#[97 + i]⟩
theorem nmA_inj {i j : Nat} (h : nmA i = nmA j) : i = j := by
  unfold nmA at h
  have h2 : (#[97 + i] : Array Nat) = #[97 + j] := congrArg Str.cps h
  have h3 : ([97 + i] : List Nat) = [97 + j] := congrArg Array.toList h2
  have := (List.cons.inj h3).1
  omega
def kdA (ms : List Mx) (may : Bool) (i : Nat) : Kd := ⟨(ms[i]?).getD one1, 1, may, 1, []⟩
def ksI (ms : List Mx) (may : Bool) (n : Nat) : Ks := (List.range n).map fun i => (nmA i, kdA ms may i)
theorem ksI_succ (ms : List Mx) (may : Bool) (n : Nat) : ksI ms may (n + 1) = ksI ms may n ++ [(nmA n, kdA ms may n)] := by
  unfold ksI
  rw [List.range_succ, List.map_append]
  rfl
theorem kdA_good {ms : List Mx} {may : Bool} (hg : ∀ m ∈ ms, m.Good) (i : Nat) : (kdA ms may i).m.Good := by
  show ((ms[i]?).getD one1).Good
  cases h : ms[i]? with
  | none => exact one_good
  | some m => exact hg m (List.mem_of_getElem? h)
theorem ksI_nd (ms : List Mx) (may : Bool) (n : Nat) : ((ksI ms may n).map (·.1)).Nodup := by
  unfold ksI
  rw [List.map_map]
  refine List.Pairwise.map _ (fun a b h e => h (nmA_inj e)) List.nodup_range
theorem ksI_get (ms : List Mx) (may : Bool) {n i : Nat} (h : i < n) : aget (ksI ms may n) (nmA i) = some (kdA ms may i) := aget_of_mem (ksI_nd ms may n) (List.mem_map.mpr ⟨i, List.mem_range.mpr h, rfl⟩)
theorem ksI_new (ms : List Mx) (may : Bool) (n : Nat) : aget (ksI ms may n) (nmA n) = none := by
  cases e : aget (ksI ms may n) (nmA n) with
  | none => rfl
  | some k =>
    obtain ⟨i, hi, e2⟩ := List.mem_map.mp (aget_mem e)
    have := nmA_inj (congrArg Prod.fst e2)
    have := List.mem_range.mp hi
    omega
theorem nmA_ok : ∀ i, i < 3 → goodN (nmA i) = true ∧ PyData.strOk (nmA i) = true ∧ (nmA i).length ≤ 100 ∧ atI ("abcd" : Str).cps.toList (i : Int) = some (97 + i) := by decide +kernel
theorem ksI_ok {ms : List Mx} {may : Bool} (hg : ∀ m ∈ ms, m.Good) {n : Nat} (hn : n ≤ 3) : KsOk (ksI ms may n) := by
  refine ⟨fun p hp => ?_, fun p hp => ?_, ksI_nd ms may n, ?_, fun p hp => ?_⟩
  · obtain ⟨i, _, rfl⟩ := List.mem_map.mp hp
    exact kdA_good hg i
  · obtain ⟨i, _, rfl⟩ := List.mem_map.mp hp
    exact ⟨Int.le_refl _, by show (1 : Int) ≤ 99; decide, by show (0 : Int) ≤ 1; decide, by show (1 : Int) ≤ 999; decide⟩
  · unfold ksI
    rw [List.length_map, List.length_range]
    omega
  · obtain ⟨i, hi, rfl⟩ := List.mem_map.mp hp
    exact (nmA_ok i (by have := List.mem_range.mp hi; omega)).2.1
theorem kdA_turns (ms : List Mx) (may : Bool) (i : Nat) : turnsK (kdA ms may i) = tsOf (kdA ms may i).m may := rfl
/-! a bag that holds so many of them -/
structure Pkd (ks : Ks) (ms : List Mx) (R C k : Nat) (t : List Pk.Cell) (b : Bag) : Prop where
  ok : BagOk ks b
  r : b.rows = R
  c : b.cols = C
  last : b.last = (k : Int)
  own : ∀ d : Pk.Cell, ownB ks b (cz1 d) = none ↔ d ∉ t
  len : (gridL ks b.piles).length = t.length
  wei : weightB ks b = (k : Int)
  kin : ∀ q ∈ b.piles, ∃ j, j < k ∧ q.2.kind = nmA j
theorem pkd_nil {ks : Ks} {ms : List Mx} {R C : Nat} (h1 : 1 ≤ R) (h2 : R ≤ 4) (h3 : 1 ≤ C) (h4 : C ≤ 4) : Pkd ks ms R C 0 [] ⟨R, C, 0, []⟩ := ⟨bagOk_nil h1 (by omega) h3 (by omega), rfl, rfl, rfl, fun d => ⟨fun _ h => (by cases h), fun _ => own_none.mpr fun p hp => (by cases hp)⟩, rfl, rfl, fun q hq => (by cases hq)⟩
theorem pkd_fits {ms : List Mx} {may : Bool} {n R C k : Nat} {t : List Pk.Cell} {b : Bag} (h : Pkd (ksI ms may n) ms R C k t b) {s : Pk.Spot} (hs : s ∈ Pk.spots (kdA ms may k).m R C (tsOf (kdA ms may k).m may)) (hf : Pk.free t s.some = true) : fitsK (ksI ms may n) b (kdA ms may k) s.turn (s.row : Int) (s.col : Int) none = true := by
  obtain ⟨h1, h2, h3, h4, h5⟩ := Pk.mem_spots.mp hs
  refine fits_of (by rw [kdA_turns]; exact h3) fun d hd => ?_
  rw [cz_at] at hd
  obtain ⟨e, he, rfl⟩ := List.mem_map.mp hd
  refine ⟨?_, (h.own e).mpr (Pk.free_iff.mp hf e (by rw [h4]; exact he))⟩
  have hb := List.all_eq_true.mp h5 e he
  unfold Pk.inB at hb
  simp only [Bool.and_eq_true, decide_eq_true_eq] at hb
  unfold inside cz1
  rw [h.r, h.c]
  simp only [Bool.and_eq_true, decide_eq_true_eq]
  omega
theorem pkd_put {ms : List Mx} {may : Bool} {n R C k : Nat} {t : List Pk.Cell} {b : Bag} (hg : ∀ m ∈ ms, m.Good) (hk : k < n) (h : Pkd (ksI ms may n) ms R C k t b) {tu r c : Nat} (hf : fitsK (ksI ms may n) b (kdA ms may k) tu (r : Int) (c : Int) none = true) :
    Pkd (ksI ms may n) ms R C (k + 1) (t ++ Pk.cellsAt (kdA ms may k).m tu r c) (b.put ⟨nmA k, 1, tu, (r : Int), (c : Int)⟩) := by
  have hget := ksI_get ms may hk
  have hcp : cellsP (ksI ms may n) ⟨nmA k, 1, tu, (r : Int), (c : Int)⟩ = (Pk.cellsAt (kdA ms may k).m tu r c).map cz1 := by
    rw [cellsP_of (p := ⟨nmA k, 1, tu, (r : Int), (c : Int)⟩) hget, ← cz_at]
  refine ⟨h.ok.put (p := ⟨nmA k, 1, tu, (r : Int), (c : Int)⟩) hget (kdA_good hg k) (Int.le_refl _) hf, h.r, h.c, ?_, fun d => ?_, ?_, ?_, ?_⟩
  · show b.last + 1 = ((k + 1 : Nat) : Int)
    rw [h.last]
    omega
  · rw [List.mem_append]
    have e1 : ownB (ksI ms may n) (b.put ⟨nmA k, 1, tu, (r : Int), (c : Int)⟩) (cz1 d) = none ↔ ownB (ksI ms may n) b (cz1 d) = none ∧ d ∉ Pk.cellsAt (kdA ms may k).m tu r c := by
      rw [own_none, own_none]
      show (∀ p ∈ (b.piles ++ [(b.last + 1, (⟨nmA k, 1, tu, (r : Int), (c : Int)⟩ : Pil))]).map (·.2), _) ↔ _
      rw [List.map_append]
      constructor
      · intro hh
        refine ⟨fun p hp => hh p (List.mem_append_left _ hp), fun hd => ?_⟩
        refine hh _ (List.mem_append_right _ List.mem_cons_self) ?_
        show cz1 d ∈ cellsP _ ⟨nmA k, 1, tu, (r : Int), (c : Int)⟩
        rw [hcp]
        exact cz1_mem.mpr hd
      · rintro ⟨h1, h2⟩ p hp
        rcases List.mem_append.mp hp with hp | hp
        · exact h1 p hp
        · have : p = ⟨nmA k, 1, tu, (r : Int), (c : Int)⟩ := by simpa using hp
          rw [this, hcp]
          exact fun hd => h2 (cz1_mem.mp hd)
    rw [e1, h.own]
    exact ⟨fun hh => fun z => z.elim hh.1 hh.2, fun hh => ⟨fun z => hh (.inl z), fun z => hh (.inr z)⟩⟩
  · show (gridL _ (b.piles ++ [(b.last + 1, (⟨nmA k, 1, tu, (r : Int), (c : Int)⟩ : Pil))])).length = _
    have hl := h.len
    unfold gridL at hl ⊢
    rw [List.flatMap_append, List.length_append, hl, List.length_append]
    congr 1
    show ((cellsP (ksI ms may n) ⟨nmA k, 1, tu, (r : Int), (c : Int)⟩).map _ ++ []).length = _
    rw [List.append_nil, List.length_map, hcp, List.length_map]
  · show ((b.piles ++ [(b.last + 1, (⟨nmA k, 1, tu, (r : Int), (c : Int)⟩ : Pil))]).map _).sum = _
    have hw := h.wei
    unfold weightB at hw
    rw [List.map_append, List.sum_append, hw]
    show (k : Int) + (heavyOf (ksI ms may n) (nmA k) * 1 + 0) = _
    unfold heavyOf
    rw [hget]
    show (k : Int) + (1 * 1 + 0) = ((k + 1 : Nat) : Int)
    omega
  · intro q hq
    have hq : q ∈ b.piles ++ [(b.last + 1, (⟨nmA k, 1, tu, (r : Int), (c : Int)⟩ : Pil))] := hq
    rcases List.mem_append.mp hq with hq | hq
    · obtain ⟨j, hj, e⟩ := h.kin q hq
      exact ⟨j, by omega, e⟩
    · have : q = (b.last + 1, (⟨nmA k, 1, tu, (r : Int), (c : Int)⟩ : Pil)) := by simpa using hq
      exact ⟨k, by omega, by rw [this]⟩
theorem pkd_putD {ms : List Mx} {may : Bool} {n R C k : Nat} {t : List Pk.Cell} {b : Bag} (hk : k < n) (h : Pkd (ksI ms may n) ms R C k t b) {tu r c : Nat} (hf : fitsK (ksI ms may n) b (kdA ms may k) tu (r : Int) (c : Int) none = true) : putD (ksI ms may n) b (nmA k) 1 tu (r : Int) (c : Int) = (.ok (.d (.int ((k : Int) + 1))), b.put ⟨nmA k, 1, tu, (r : Int), (c : Int)⟩) := by
  unfold putD
  rw [ksI_get ms may hk]
  show (if (1 : Int) ≤ 1 ∧ (1 : Int) ≤ (kdA ms may k).most then _ else _) = _
  rw [if_pos ⟨Int.le_refl _, Int.le_refl _⟩, if_pos hf, h.last]
/-! what a packing tells -/
def FillK : List (List Pk.Spot) → List Pk.Cell → List Pk.Spot → Prop
  | [], _, l => l = []
  | S :: E, t, l => ∃ s l', l = s :: l' ∧ s ∈ S ∧ Pk.free t s.some = true ∧ FillK E (t ++ s.some) l'
theorem laid_fill : ∀ (E : List (List Pk.Spot)) (t : List Pk.Cell) (l : List Pk.Spot), Pk.laid E t = some l → FillK E t l
  | [], t, l, h => by
    cases h
    rfl
  | S :: E, t, l, h => by
    obtain ⟨s, hs, hl⟩ := Pk.firstSome_some _ h
    by_cases hf : Pk.free t s.some = true
    · rw [if_pos hf] at hl
      cases e : Pk.laid E (t ++ s.some) with
      | none =>
        rw [e] at hl
        cases hl
      | some l' =>
        rw [e] at hl
        cases hl
        exact ⟨s, l', rfl, hs, hf, laid_fill E _ l' e⟩
    · rw [if_neg hf] at hl
      cases hl
/-- spots chosen one by one -/
inductive Grown : List (List Pk.Spot) → List Pk.Cell → Prop
  | nil : Grown [] []
  | snoc {E : List (List Pk.Spot)} {S : List Pk.Spot} {t : List Pk.Cell} {s : Pk.Spot} : Grown E t → s ∈ S → Pk.free t s.some = true → Grown (E ++ [S]) (t ++ s.some)
theorem Grown.ways {E : List (List Pk.Spot)} {t : List Pk.Cell} (g : Grown E t) : ∀ F, Pk.ways F t ≠ 0 → Pk.ways (E ++ F) [] ≠ 0 := by
  induction g with
  | nil => exact fun F h => h
  | snoc g hs hf ih =>
    intro F h
    rw [List.append_assoc]
    refine ih _ fun e => ?_
    have := (Pk.sum_pos _).mp e _ hs
    rw [if_pos hf] at this
    exact h this
theorem Grown.pack {ms : List Mx} {R C : Nat} {may : Bool} (hg : ∀ m ∈ ms, m.Good) {t : List Pk.Cell} (g : Grown (everyM ms R C may) t) : packM ms R C may ≠ none := fun e => by
  have h := (pack_none hg R C may).mp e
  have h2 := g.ways [] (by show (1 : Nat) ≠ 0; decide)
  rw [List.append_nil] at h2
  exact h2 h
/-! adding one of each -/
theorem first_in {ks : Ks} {b : Bag} {k : Kd} {x : Plc} (h : firstAt ks b k = some x) : x.2.1 < b.rows ∧ x.2.2 < b.cols := by
  unfold firstAt at h
  obtain ⟨r, hr, h⟩ := List.exists_of_findSome?_eq_some h
  unfold tryR at h
  obtain ⟨c, hc, h⟩ := List.exists_of_findSome?_eq_some h
  unfold tryC at h
  obtain ⟨t, _, h⟩ := List.exists_of_findSome?_eq_some h
  unfold tryT at h
  by_cases hf : fitsK ks b k t (r : Int) (c : Int) none = true
  · rw [if_pos hf] at h
    cases h
    exact ⟨List.mem_range.mp hr, List.mem_range.mp hc⟩
  · rw [if_neg hf] at h
    cases h
theorem up_same {k : Kd} {z : Str} {b : Bag} {m : Int} : ∀ l : List Int, (∀ n ∈ l, (pileOf b n).kind ≠ z) → upAll k z b m l = (b, m)
  | [], _ => rfl
  | n :: l, h => by
    have e : upStep k z (b, m) n = (b, m) := by
      unfold upStep
      rw [if_neg fun z => h n List.mem_cons_self z.1]
    have ih := up_same (k := k) (m := m) l fun x hx => h x (List.mem_cons_of_mem _ hx)
    unfold upAll at ih ⊢
    rw [List.foldl_cons, e]
    exact ih
theorem pkd_add {ms : List Mx} {may : Bool} {n R C k : Nat} {t : List Pk.Cell} {b : Bag} (hg : ∀ m ∈ ms, m.Good) (hk : k < n) (hn : n = ms.length) (h : Pkd (ksI ms may n) ms R C k t b) (g : Grown (everyM (ms.take k) R C may) t) :
    (0 < (addK (ksI ms may n) (kdA ms may k) (nmA k) b 1).2) ∨ ((addK (ksI ms may n) (kdA ms may k) (nmA k) b 1).2 = 0 ∧ ∃ t', Pkd (ksI ms may n) ms R C (k + 1) t' (addK (ksI ms may n) (kdA ms may k) (nmA k) b 1).1 ∧ Grown (everyM (ms.take (k + 1)) R C may) t') := by
  have hup : upAll (kdA ms may k) (nmA k) b 1 (numsB (ksI ms may n) b) = (b, 1) := up_same _ fun x hx e => by
    have hx := numsB_mem.mp hx
    obtain ⟨q, hq, rfl⟩ := List.mem_map.mp hx
    rw [pileOf_mem h.ok.num hq] at e
    obtain ⟨j, hj, e2⟩ := h.kin q hq
    rw [e2] at e
    have := nmA_inj e
    omega
  have e0 : addK (ksI ms may n) (kdA ms may k) (nmA k) b 1 = match firstAt (ksI ms may n) b (kdA ms may k) with
      | none => (b, 1)
      | some x => (b.put ⟨nmA k, 1, x.1, (x.2.1 : Int), (x.2.2 : Int)⟩, 0) := by
    unfold addK
    rw [hup]
    show putAll _ _ _ 1 b 1 = _
    rw [putAll, if_pos (by decide)]
    cases firstAt (ksI ms may n) b (kdA ms may k) with
    | none => rfl
    | some x => rfl
  rw [e0]
  cases ef : firstAt (ksI ms may n) b (kdA ms may k) with
  | none => exact .inl (by show (0 : Int) < 1; decide)
  | some x =>
    have hf := first_some ef
    obtain ⟨hr, hc⟩ := first_in ef
    refine .inr ⟨rfl, _, pkd_put hg hk h hf, ?_⟩
    have hkm : ms[k]? = some (kdA ms may k).m := by
      show ms[k]? = some ((ms[k]?).getD one1)
      rw [List.getElem?_eq_getElem (by omega)]
      rfl
    have hev : everyM (ms.take (k + 1)) R C may = everyM (ms.take k) R C may ++ [Pk.spots (kdA ms may k).m R C (tsOf (kdA ms may k).m may)] := by
      unfold everyM
      rw [List.take_succ, hkm, List.map_append]
      rfl
    rw [hev]
    unfold fitsK at hf
    rw [Bool.and_eq_true, decide_eq_true_eq] at hf
    have hcells := free_cells hf.2
    rw [cz_at] at hcells
    refine Grown.snoc (s := ⟨x.2.1, x.2.2, x.1, Pk.cellsAt (kdA ms may k).m x.1 x.2.1 x.2.2⟩) g (Pk.mem_spots.mpr ⟨by rw [← h.r]; exact hr, by rw [← h.c]; exact hc, by rw [← kdA_turns]; exact hf.1, rfl, ?_⟩) ?_
    · refine List.all_eq_true.mpr fun d hd => ?_
      have := (hcells (cz1 d) (List.mem_map.mpr ⟨d, hd, rfl⟩)).1
      unfold inside cz1 at this
      rw [h.r, h.c] at this
      simp only [Bool.and_eq_true, decide_eq_true_eq] at this
      unfold Pk.inB
      simp only [Bool.and_eq_true, decide_eq_true_eq]
      omega
    · refine Pk.free_iff.mpr fun d hd => ?_
      exact (h.own d).mp (hcells (cz1 d) (List.mem_map.mpr ⟨d, hd, rfl⟩)).2
end G
end

section
set_option Elab.async false
set_option linter.all false
set_option maxRecDepth 100000
set_option maxHeartbeats 8000000
/-! ### k51: the law -/
namespace G
open PySem PySem.Spec PyProof.Rows L2 Sh
theorem bookT_eq {C : Addr} {B B' : Bok} (h1 : B.b = B'.b) (h2 : B.dx = B'.dx) (h3 : B.ra = B'.ra) (h4 : B.kss = B'.kss) : BookT C B = BookT C B' := by
  unfold BookT
  simp only [h1, h2, h3, h4]
theorem ixN_nat51 {n c : Nat} (h : c < n) : ixN n (c : Int) = some c := by
  unfold ixN
  rw [if_pos (by omega), if_pos (by omega), Int.toNat_natCast]
theorem atI_at51 {α : Type} {l : List α} {c : Nat} {x : α} (h : l[c]? = some x) : atI l (c : Int) = some x := by
  unfold atI
  rw [ixN_nat51 (List.getElem?_eq_some_iff.mp h).1]
  exact h
theorem add_ok51 {ks : Ks} {b : Bag} {z : Str} {m : Int} {k : Kd} (hk : aget ks z = some k) (hm : 0 ≤ m) : addD ks b z m = (.ok (.d (.int (addK ks k z b m).2)), (addK ks k z b m).1) := by
  unfold addD
  rw [hk]
  show (if m < 0 then _ else _) = _
  rw [if_neg (by omega)]
theorem sb_consI51 {X : Cx} {CA : Str → Addr} {Y : Wd} {ρ : Rho} {w : Y.W} {O : Out Y.W} {st : Stmt} {rest : List Stmt} (I : Rho → Y.W → Prop) (h : S1 X CA Y ρ w st { O with nx := I }) (k : ∀ ρ' w', I ρ' w' → SB X CA Y ρ' w' rest O) : SB X CA Y ρ w (st :: rest) O :=
  sb_cons (h.imp fun F D Wx m => ⟨fun ρ' w' F' L' R' H' σ' o => m.nx ρ' w' F' L' R' H' σ' (k ρ' w' o), m.rt, m.ex, m.bk, m.ct⟩)
theorem wayn51 (o : Option (List Pk.Spot)) : isNon (wayD o) = decide (o = none) := by
  cases o <;> rfl
theorem badP51 {n R C : Nat} {most : Int} (hl : (n : Int) ≤ most) (h1 : 1 ≤ R) (h2 : R ≤ 4) (h3 : 1 ≤ C) (h4 : C ≤ 4) : badP n (R : Int) (C : Int) most = false := by
  unfold badP
  simp only [Bool.or_eq_false_iff, Bool.not_eq_false', Bool.and_eq_true, decide_eq_true_eq, decide_eq_false_iff_not]
  omega
theorem ways51 {ms : List Mx} {R C : Nat} {may : Bool} {th : List Thing} (hg : ∀ m ∈ ms, m.Good) (hl : ms.length ≤ 4) (h1 : 1 ≤ R) (h2 : R ≤ 4) (h3 : 1 ≤ C) (h4 : C ≤ 4) : waysRX [.d (shsD ms), .d (.int (R : Int)), .d (.int (C : Int)), .d (.bool may)] th (.ok (.d (.int ((waysM ms R C may : Nat) : Int)))) := by
  refine .inl ⟨ms, R, C, may, hg, by omega, rfl, ?_⟩
  rw [badP51 (by omega) h1 h2 h3 h4]
  rfl
theorem pack51 {ms : List Mx} {R C : Nat} {may : Bool} {th : List Thing} (hg : ∀ m ∈ ms, m.Good) (hl : ms.length ≤ 4) (h1 : 1 ≤ R) (h2 : R ≤ 4) (h3 : 1 ≤ C) (h4 : C ≤ 4) : packRX [.d (shsD ms), .d (.int (R : Int)), .d (.int (C : Int)), .d (.bool may)] th (.ok (.d (wayD (packM ms R C may)))) := by
  refine .inl ⟨ms, R, C, may, hg, by omega, rfl, ?_⟩
  rw [badP51 (by omega) h1 h2 h3 h4]
  rfl
theorem sum_app51 (l : List Int) (x : Int) : (l ++ [x]).sum = l.sum + x := by
  rw [List.sum_append]
  show l.sum + (x + 0) = _
  omega
abbrev W51 (K : PySem.W.Frag) (CA : Str → Addr) (sa ta : Addr) (ns : List Int) (n : Nat) (B : Bok) (a : Addr) (b : Bag) (l : List Thing) : List Thing := [ScrT K sa ns, TownT ta n, BookT (CA "Book") B, bagAt CA a B b] ++ l
section
variable {P : Program} {w : World} {K : PySem.W.Frag} {mg : Str → Option Value} {base : Heap} {CA : Str → Addr}
theorem ok_law51 {f : Addr} {fd : FuncData} (hsu : mg "sum" = none) (t : TxtS K mg CA) (tb : TxtB K mg CA) (tg : TxtG K mg CA) (Fd : FunD K "law" "law" (defArgs T.s_law) (defBody T.s_law) (defScope T.s_law) [] [] f fd)
    (fd3 : DrawF P w K mg base CA) (fsh : FnF P w K mg base 4 "_law_shape" (lift CA (pmT K 20 preShape postShape))) (fp : FnF P w K mg base 7 "packing" (lift CA (pmW (rdo packRX)))) (fw : FnF P w K mg base 6 "ways" (lift CA (pmW (rdo waysRX))))
    (fbk : FnN P w K mg base 1 (CA "Book") "Book" (lift CA (pmW (spBook (CA "Book"))))) (fba : FnM P w K mg base 3 (CA "Book") "add" (lift CA (pmW (spAdd (CA "Book"))))) (fmb : MBagF P w K mg base CA) (fce : CellsF P w K mg base CA) (fft : FitsF P w K mg base CA) (fpu : PutF P w K mg base CA)
    (ffr : FnM P w K mg base 1 (CA "Bag") "free" (lift CA (pmW (rdo (freeNR K CA))))) (fwe : WeighF P w K mg base CA) (fad : AddF P w K mg base CA) : FnOk P w K mg base (L2.CX P w) 9 f fd T.P_law (lift CA (pmLaw K)) := by
  refine fn_lawT Fd T.sc_law rfl fun cdv A outer s H E R0 sa ns hr hl => ?_
  have nd := T.sc_law.nd
  have r1 : Room 1 (A.deeper (envOfC "law" (defScope T.s_law) s.heap.objs.size f cdv)) := hr.mono (by decide)
  have r2 : Room 2 (A.deeper (envOfC "law" (defScope T.s_law) s.heap.objs.size f cdv)) := hr.mono (by decide)
  have r3 : Room 3 (A.deeper (envOfC "law" (defScope T.s_law) s.heap.objs.size f cdv)) := hr.mono (by decide)
  have r4 : Room 4 (A.deeper (envOfC "law" (defScope T.s_law) s.heap.objs.size f cdv)) := hr.mono (by decide)
  have r5 : Room 5 (A.deeper (envOfC "law" (defScope T.s_law) s.heap.objs.size f cdv)) := hr.mono (by decide)
  have r6 : Room 6 (A.deeper (envOfC "law" (defScope T.s_law) s.heap.objs.size f cdv)) := hr.mono (by decide)
  have r7 : Room 7 (A.deeper (envOfC "law" (defScope T.s_law) s.heap.objs.size f cdv)) := hr.mono (by decide)
  have r8 : Room 8 (A.deeper (envOfC "law" (defScope T.s_law) s.heap.objs.size f cdv)) := hr.mono (by decide)
  refine sb_cons (s_townT 1 nd fun ta => ?_)
  show SB _ CA (ThW R0) _ [ScrT K sa ns, TownT ta 0] _ _
  refine sb_cons (s_asgCS (own := [("k", 8)]) 2 rfl nd (blkOk_by (N := T.N_law) (sc := defScope T.s_law) (by decide +kernel)) (lcS (fun i : Nat => PyData.int (i : Int))
    (esi_rangeN t.range (es_op op_add (Ev.s ev_int (es_drawT fd3 r3 0 1 ev_int (by decide) (by decide) fun r n1 z0 z1 a1 a2 => ⟨_, _, _, rfl, rfl, od_I0 (h := fun i j => .int (i + j)) (fun _ _ _ => .int _), ?_⟩))))))
  have en : (1 : Int) + r = ((1 + r.toNat : Nat) : Int) := by omega
  refine ⟨1 + r.toNat, by rw [← en], by omega, List.range (1 + r.toNat), rfl, by rw [List.length_range]; exact Nat.lt_of_le_of_lt (show _ ≤ 10 by omega) (by decide), (fun x : Nat => [some (.raw (.ref sa)), some (.raw (.ref ta)), none, none, none, none, none, none, some (.d (.int (x : Int))), none, none, none, none, none, none, none, none]),
    (fun i acc w' => ∃ (ms : List Mx) (n : Nat), acc = (ms.map fun m => shD m.enc) ∧ (∀ m ∈ ms, m.Good) ∧ ms.length = i ∧ w' = [ScrT K sa ns, TownT ta n] ∧ n ≤ 1 + 20 * i), ⟨[], n1, rfl, by simp, rfl, rfl, by omega⟩, ?_, ?_⟩
  · rintro i x acc w' hi ⟨ms, n, rfl, hg, hml, rfl, hn⟩
    obtain ⟨hix, ex⟩ := List.getElem?_eq_some_iff.mp hi
    rw [List.length_range] at hix
    refine ⟨fun _ _ _ _ _ => tg_name 8 nd (by decide), fun _ _ _ _ _ => ests_nil ⟨fun _ _ _ _ _ _ => ?_, fun hb => (by cases hb)⟩⟩
    refine es_townT fsh r4 0 1 (esa_data (Y := ThW R0) (ea_one ev_int) ⟨n, _, [.int ((3 : Nat) : Int)], rfl, rfl, by omega, ⟨3, rfl, by decide, by decide⟩, fun d n3 hp c1 c2 => ?_⟩)
    obtain ⟨most, m, e1, gm, _, _, rfl⟩ := hp
    refine ⟨_, rfl, ms ++ [m], n3, by rw [List.map_append]; rfl, fun m' hm' => ?_, by rw [List.length_append, hml]; rfl, rfl, by omega⟩
    rcases List.mem_append.mp hm' with h | h
    · exact hg m' h
    · have : m' = m := by simpa using h
      rw [this]
      exact gm
  rintro acc w' ⟨ms, n, rfl, hg, hml, rfl, hn⟩
  rw [List.length_range] at hml hn
  have hm3 : ms.length ≤ 3 := by omega
  have hn' : n ≤ 100 := by omega
  clear hml hn
  refine ⟨_, rfl, ?_⟩
  refine sb_cons (s_par 3 4 rfl nd (esa_cons (es_op op_add (Ev.s ev_int (es_drawT fd3 r3 0 1 ev_int (by decide) (by omega) fun r' n2 y0 y1 b1 b2 => ⟨_, _, _, rfl, rfl, od_I0 (h := fun i j => .int (i + j)) (fun _ _ _ => .int _),
    esa_cons (es_op op_add (Ev.s ev_int (es_drawT fd3 r3 0 1 ev_int (by decide) (by omega) fun q' n3 x0 x1 c1 c2 => ⟨_, _, _, rfl, rfl, od_I0 (h := fun i j => .int (i + j)) (fun _ _ _ => .int _), esa_nil ⟨.d (.int (1 + r')), .d (.int (1 + q')), rfl, ?_⟩⟩)))⟩)))))
  obtain ⟨R, eR, R1, R4⟩ : ∃ R : Nat, (1 : Int) + r' = (R : Int) ∧ 1 ≤ R ∧ R ≤ 4 := ⟨(1 + r').toNat, by omega, by omega, by omega⟩
  obtain ⟨C, eC, C1, C4⟩ : ∃ C : Nat, (1 : Int) + q' = (C : Int) ∧ 1 ≤ C ∧ C ≤ 4 := ⟨(1 + q').toNat, by omega, by omega, by omega⟩
  rw [eR, eC]
  have hn3 : n3 ≤ 200 := by omega
  refine sb_cons (s_asg 5 nd (es_cmp op_eq (nomark _) (es_drawT fd3 r3 0 1 ev_int (by decide) (by omega) fun rm n4 u0 u1 d1 d2 => Ev.s ev_int ⟨_, _, _, rfl, rfl, od_eqI, ?_⟩)))
  generalize decide (rm = 0) = may
  show SB _ CA (ThW R0) [some (.raw (.ref sa)), some (.raw (.ref ta)), some (.d (shsD ms)), some (.d (.int (R : Int))), some (.d (.int (C : Int))), some (.d (.bool may)), none, none, none, none, none, none, none, none, none, none, none] [ScrT K sa ns, TownT ta n4] _ _
  refine sb_cons (s_asg 6 nd (EvV.s (vcall fp r7 (va_cons (vv 2) (va_cons (vv 3) (va_cons (vv 4) (va_one (vv 5))))) (pack51 hg (by omega) R1 R4 C1 C4)) ?_))
  have hpn := pack_none hg R C may
  refine sb_when (v := false) (et_neq (n := 0) (da := .bool (isNon (wayD (packM ms R C may)))) (db := .bool (decide (((waysM ms R C may : Nat) : Int) = 0))) r1 (ev_isN (ev_var 6)) (ev_eqI (EvV.dat (vcall (sv := .d (.int ((waysM ms R C may : Nat) : Int))) fw r6 (va_cons (vv 2) (va_cons (vv 3) (va_cons (vv 4) (va_one (vv 5))))) (ways51 hg (by omega) R1 R4 C1 C4))) ev_int) ?_ (Da.fit_bool _)) (fun h => (by cases h)) (fun _ => ?_)
  · rw [wayn51]
    congr 1
    exact Da.dec_iff ⟨fun e => by rw [hpn.mp e]; rfl, fun e => hpn.mpr (by omega)⟩
  refine sb_cons (s_asg 7 nd (es_make0 fbk r2 fun ba bdx hne => ⟨_, ba, bdx, rfl, hne, rfl, fun ra => ⟨rfl, ?_⟩⟩))
  have hlen2 : ∀ (ρ : Rho) (X : Cx) (Ω : Om), True := fun _ _ _ => trivial
  have hmi : ∀ i, i < ms.length → (ms.map fun m => shD m.enc)[i]? = some (shD (kdA ms may i).m.enc) := fun i hi => by
    rw [List.getElem?_map, List.getElem?_eq_getElem hi]
    show some (shD ms[i].enc) = some (shD ((ms[i]?).getD one1).enc)
    rw [List.getElem?_eq_getElem hi]
    rfl
  refine sb_cons (s_for (List.range ms.length) (fun i : Nat => PyData.int (i : Int)) (vs := [8]) (passes_of rfl) rfl (ei_rangeN t.range (Ev.is (ev_lenL (ds := ms.map fun m => shD m.enc) t.len (ev_var 2)) (by rw [List.length_map])) (by omega))
    (fun i ρ' w' => ∃ (o8 : Option Sv), w' = [ScrT K sa ns, TownT ta n4, BookT (CA "Book") ⟨ba, bdx, ra, ksI ms may i⟩] ∧
      ρ' = [some (.raw (.ref sa)), some (.raw (.ref ta)), some (.d (shsD ms)), some (.d (.int (R : Int))), some (.d (.int (C : Int))), some (.d (.bool may)), some (.d (wayD (packM ms R C may))), some (.raw (.ref ba)), o8, none, none, none, none, none, none, none, none])
    ⟨_, rfl, rfl⟩ ?_ ?_)
  · rintro i kk ρ' w' hi ⟨o8, rfl, rfl⟩
    obtain ⟨rfl, hik⟩ := range_at hi
    refine ⟨_, tg_name 8 nd (by decide), ?_⟩
    obtain ⟨g1, g2, g3, g4⟩ := nmA_ok kk (by omega)
    have hkl : (ksI ms may kk).length = kk := by
      unfold ksI
      rw [List.length_map, List.length_range]
    refine sb_one (s_expr (emeth fba r3 tb.c.c (vv 7) (book_is 2 rfl) (va_cons (Ev.v (d := .str (nmA kk)) (ev_ixS (z := "abcd") ev_str (ev_var 8) g4 (by decide +kernel))) (va_cons (Ev.v (d := shD (kdA ms may kk).m.enc) (ev_ixL (ds := ms.map fun m => shD m.enc) (ev_var 2) (ev_var 8) (atI_at51 (hmi kk hik)))) (va_cons (Ev.v ev_int) (va_cons (vv 5) (va_cons (Ev.v ev_int) (va_one (Ev.v (ev_lst ea_nil)))))))) ⟨2, ⟨ba, bdx, ra, ksI ms may kk⟩, nmA kk, (kdA ms may kk).m.enc, 1, may, 1, [], rfl, rfl, by show (ksI ms may kk).length ≤ 30; omega, g3, (fun y hy => by cases hy), by decide, .inl ⟨_, kdA_good hg kk, rfl⟩, ?_⟩))
    rw [addDue_ok (B := ⟨ba, bdx, ra, ksI ms may kk⟩) (tags := []) (most := 1) (heavy := 1) g1 (ksI_new ms may kk) (by show (ksI ms may kk).length ≠ 30; omega) (goodS_enc (kdA_good hg kk)) (by decide) (by decide) (by decide) (by decide) rfl]
    intro m' ts gm' em' hts
    have hts : ts = [] := by
      cases ts with
      | nil => rfl
      | cons x xs =>
        have := (hts x).mp List.mem_cons_self
        cases this
    subst hts
    refine ⟨_, ?_, rfl⟩
    show [ScrT K sa ns, TownT ta n4, BookT (CA "Book") (Bok.with ⟨ba, bdx, ra, ksI ms may kk⟩ (nmA kk) ⟨m', 1, may, 1, []⟩)] = _
    rw [bookT_eq (C := CA "Book") (B := Bok.with ⟨ba, bdx, ra, ksI ms may kk⟩ (nmA kk) ⟨m', 1, may, 1, []⟩) (B' := ⟨ba, bdx, ra, ksI ms may (kk + 1)⟩) rfl rfl rfl (by
      show (ksI ms may kk ++ [(nmA kk, (⟨m', 1, may, 1, []⟩ : Kd))]).map _ = (ksI ms may (kk + 1)).map _
      rw [ksI_succ, List.map_append, List.map_append]
      congr 1
      show [((.inr (nmA kk) : L2.Key), Sv.d (.tuple [shD m'.enc, .int 1, .bool may, .int 1, tagsD []]))] = [((.inr (nmA kk) : L2.Key), Sv.d (.tuple [shD (kdA ms may kk).m.enc, .int 1, .bool may, .int 1, tagsD []]))]
      rw [em'])]
  rintro ρ' w' ⟨o8, rfl, rfl⟩
  rw [List.length_range]
  have good : KsOk (ksI ms may ms.length) := ksI_ok hg hm3
  obtain ⟨B, eB⟩ : ∃ B : Bok, B = ⟨ba, bdx, ra, ksI ms may ms.length⟩ := ⟨_, rfl⟩
  have eBr : B.rows = ksI ms may ms.length := by rw [eB]
  have eBb : ba = B.b := by rw [eB]
  rw [← eB, eBb]
  refine sb_cons (s_asg 9 nd (emake fmb r2 (va_cons (vv 7) (va_cons (vv 3) (va_one (vv 4)))) fun a adx hne => ⟨_, a, adx, B, (R : Int), (C : Int), rfl, hne, rfl, ?_⟩))
  rw [if_pos (by omega)]
  refine ⟨rfl, ?_⟩
  rw [Int.toNat_natCast, Int.toNat_natCast]
  show SB _ CA (ThW R0) _ (W51 K CA sa ta ns n4 B a ⟨R, C, 0, []⟩ []) _ _
  have hin : ∀ b l, BagOk B.rows b → InBag CA (W51 K CA sa ta ns n4 B a b l) a B b 3 2 := fun b l o => ⟨rfl, rfl, by decide, o, by rw [eBr]; exact good⟩
  refine sb_cons (s_asg 10 nd (Ev.s (d := .int (((ms.map fun m => m.cells.length).sum : Nat) : Int)) (Ev.is (ev_sum (ns := ms.map fun m => (m.cells.length : Int)) rfl hsu (Ev.is (ev_lcp (own := [("shape", 16)]) rfl nd (blkOk_by (N := T.N_law) (sc := defScope T.s_law) (by decide +kernel))
        (lc_map ms (fun m => shD m.enc) (fun m => .int (m.cells.length : Int)) (fun m => _) (EvI.c (ei_list (ev_var 2))) (Nat.lt_of_le_of_lt (show _ ≤ 10 by omega) (by decide)) (fun _ _ _ _ _ m hm => tg_name 16 nd (by decide))
          (fun _ _ _ _ _ m hm => Ev.is (ev_lenL t.len (ev_call fce r2 (ea_one (ev_var 16)) (cells_good (hg m hm)))) (by rw [List.length_map])))) (by rw [List.map_map]; rfl))) (by rw [sum_cast])) ?_))
  have pk0 : Pkd B.rows ms R C 0 [] ⟨R, C, 0, []⟩ := pkd_nil R1 R4 C1 C4
  refine sb_consI51 (fun ρ' w' => ∃ (b : Bag) (o8 o11 o12 o13 : Option Sv), w' = W51 K CA sa ta ns n4 B a b [] ∧
      ρ' = [some (.raw (.ref sa)), some (.raw (.ref ta)), some (.d (shsD ms)), some (.d (.int (R : Int))), some (.d (.int (C : Int))), some (.d (.bool may)), some (.d (wayD (packM ms R C may))), some (.raw (.ref B.b)), o8, some (.raw (.ref a)), some (.d (.int (((ms.map fun m => m.cells.length).sum : Nat) : Int))), o11, o12, o13, none, none, none]) ?_ ?_
  · cases epk : packM ms R C may with
    | none => exact s_if (EvT.s (v := false) (EvT.is (et_notN (ev_var 6)) rfl) ⟨(fun h => (by cases h)), fun _ => sb_nil ⟨_, _, _, _, _, rfl, rfl⟩⟩)
    | some l =>
      have hsz : ¬ (R * C < (ms.map fun m => m.cells.length).sum) ∧ Pk.laid (everyM ms R C may) [] = some l := by
        unfold packM at epk
        by_cases e : R * C < (ms.map fun m => m.cells.length).sum
        · rw [if_pos e] at epk
          cases epk
        · rw [if_neg e] at epk
          exact ⟨e, epk⟩
      have hll : l.length = ms.length := by
        have := Pk.laid_len _ _ _ hsz.2
        unfold everyM at this
        rw [List.length_map] at this
        exact this
      have hfill := laid_fill _ _ _ hsz.2
      refine s_if (EvT.s (v := true) (EvT.is (et_notN (ev_var 6)) rfl) ⟨fun _ => ?_, (fun h => (by cases h))⟩)
      refine sb_when (v := false) (EvT.is (et_or (v := false) (EvT.is (et_neI (ev_lenL (ds := l.map fun s => .tuple [.int (s.turn : Int), .int (s.row : Int), .int (s.col : Int)]) t.len (ev_var 6)) (ev_lenL (ds := ms.map fun m => shD m.enc) t.len (ev_var 2))) (by rw [List.length_map, List.length_map, hll, decide_eq_true rfl]; rfl)) (fun _ => EvT.is (et_gt (ev_var 10) (ev_mul (i := (R : Int)) (j := (C : Int)) (ev_var 3) (ev_var 4) (.inl ⟨by omega, by omega⟩))) (decide_eq_false (by rw [← Int.natCast_mul]; omega)))) rfl) (fun h => (by cases h)) (fun _ => ?_)
      refine sb_cons (s_for (List.range ms.length) (fun i : Nat => PyData.int (i : Int)) (vs := [8]) (passes_of rfl) rfl (ei_rangeN t.range (Ev.is (ev_lenL (ds := ms.map fun m => shD m.enc) t.len (ev_var 2)) (by rw [List.length_map])) (by omega))
        (fun i ρ' w' => ∃ (b : Bag) (tk : List Pk.Cell) (o8 o11 o12 o13 : Option Sv), w' = W51 K CA sa ta ns n4 B a b [] ∧ Pkd B.rows ms R C i tk b ∧ FillK (everyM (ms.drop i) R C may) tk (l.drop i) ∧ tk.length = ((ms.take i).map fun m => m.cells.length).sum ∧
          ρ' = [some (.raw (.ref sa)), some (.raw (.ref ta)), some (.d (shsD ms)), some (.d (.int (R : Int))), some (.d (.int (C : Int))), some (.d (.bool may)), some (.d (wayD (some l))), some (.raw (.ref B.b)), o8, some (.raw (.ref a)), some (.d (.int (((ms.map fun m => m.cells.length).sum : Nat) : Int))), o11, o12, o13, none, none, none])
        ⟨_, [], _, _, _, _, rfl, pk0, hfill, rfl, rfl⟩ ?_ ?_)
      · rintro i kk ρ' w' hi ⟨b, tk, o8, o11, o12, o13, rfl, pk, hfl, htl, rfl⟩
        obtain ⟨rfl, hik⟩ := range_at hi
        refine ⟨_, tg_name 8 nd (by decide), ?_⟩
        obtain ⟨g1, g2, g3, g4⟩ := nmA_ok kk (by omega)
        have ekm : ms[kk] = (kdA ms may kk).m := by
          show ms[kk] = (ms[kk]?).getD one1
          rw [List.getElem?_eq_getElem hik]
          rfl
        have hev : everyM (ms.drop kk) R C may = Pk.spots (kdA ms may kk).m R C (tsOf (kdA ms may kk).m may) :: everyM (ms.drop (kk + 1)) R C may := by
          unfold everyM
          rw [List.drop_eq_getElem_cons hik, List.map_cons, ekm]
        rw [hev] at hfl
        obtain ⟨sp, l', el, hsp, hfr, hfl'⟩ := hfl
        have hkl : kk < l.length := by omega
        rw [List.drop_eq_getElem_cons hkl] at el
        have es : l[kk] = sp := (List.cons.inj el).1
        have el' : l.drop (kk + 1) = l' := (List.cons.inj el).2
        rw [← el'] at hfl'
        rw [eBr] at pk
        have hf := pkd_fits pk hsp hfr
        have pk2 := pkd_put hg hik pk hf
        have hpd := pkd_putD hik pk hf
        have hsome := (Pk.mem_spots.mp hsp).2.2.2.1
        rw [← hsome] at pk2
        rw [← eBr] at pk pk2 hf hpd
        have hib := hin b [] pk.ok
        have hget : aget B.rows (nmA kk) = some (kdA ms may kk) := by
          rw [eBr]
          exact ksI_get ms may hik
        refine sb_cons (s_asgT (vs := [11, 12, 13]) (ev_ixL (ds := l.map fun s => .tuple [.int (s.turn : Int), .int (s.row : Int), .int (s.col : Int)]) (d := .tuple [.int (sp.turn : Int), .int (sp.row : Int), .int (sp.col : Int)]) (ev_var 6) (ev_var 8) (atI_at51 (by rw [List.getElem?_map, List.getElem?_eq_getElem hkl, es]; rfl))) (tg_tup rfl (tgs_cons (tg_name 11 nd (by decide)) (tgs_cons (tg_name 12 nd (by decide)) (tgs_cons (tg_name 13 nd (by decide)) tgs_nil)))) ?_)
        refine sb_one (s_if (est_or (EvT.s (v := false) (EvT.is (et_not (et_val (ev_view hib fun x hx => EvV.dat (vmeth (sv := .d (.bool true)) fft r5 tg.c.c (vv 9) (bagV_open tg hib hx).is (va_cons (Ev.v (d := .str (nmA kk)) (ev_ixS (z := "abcd") ev_str (ev_var 8) g4 (by decide +kernel))) (va_cons (vv 11) (va_cons (vv 12) (va_one (vv 13))))) ⟨a, B, b, x, nmA kk, sp.turn, (sp.row : Int), (sp.col : Int), rfl, bagV_open tg hib hx, by rw [hget]; show _ = ResS.ok (.d (.bool (fitsK B.rows b (kdA ms may kk) sp.turn (sp.row : Int) (sp.col : Int) none))); rw [hf]⟩)))) rfl) ⟨(fun h => (by cases h)), fun _ => ?_⟩)))
        refine est_cmp op_ne (nomark _) (emeth fpu r6 tg.c.c (vv 9) (bag_is 3 hib.bag) (va_cons (Ev.v (d := .str (nmA kk)) (ev_ixS (z := "abcd") ev_str (ev_var 8) g4 (by decide +kernel))) (va_cons (Ev.v ev_int) (va_cons (vv 11) (va_cons (vv 12) (va_one (vv 13)))))) ⟨a, B, b, 3, 2, _, .ok (.d (.int ((kk : Int) + 1))), b.put ⟨nmA kk, 1, sp.turn, (sp.row : Int), (sp.col : Int)⟩, rfl, hib, ⟨nmA kk, 1, sp.turn, (sp.row : Int), (sp.col : Int), rfl, hpd.symm⟩, ?_⟩)
        refine Ev.s (ev_add (ev_var 8) ev_int) ⟨_, _, _, rfl, rfl, od_neI, (fun h => (by simp at h)), fun _ => sb_nil ?_⟩
        refine ⟨_, tk ++ sp.some, _, _, _, _, rfl, pk2, hfl', ?_, rfl⟩
        rw [List.length_append, htl, hsome, cellsAt_len (kdA_good hg kk), List.take_succ_eq_append_getElem hik, List.map_append, List.sum_append, ekm]
        simp
      · rintro ρ' w' ⟨b, tk, o8, o11, o12, o13, rfl, pk, hfl, htl, rfl⟩
        rw [List.length_range] at pk htl
        rw [List.take_length] at htl
        have hib := hin b [] pk.ok
        refine sb_one (s_if (EvT.s (v := false) (EvT.is (et_or (v := false) (EvT.is (et_neI (i := (R : Int) * (C : Int) - ((ms.map fun m => m.cells.length).sum : Nat)) (Ev.is (ev_view hib fun x hx => EvV.dat (vmeth0 (sv := .d (.int ((b.rows : Int) * (b.cols : Int) - ((gridL B.rows b.piles).length : Int)))) ffr r1 tg.c.c (vv 9) (bagV_open tg hib hx).is ⟨a, B, b, x, rfl, bagV_open tg hib hx, rfl⟩)) (by rw [pk.r, pk.c, pk.len, htl])) (ev_sub (ev_mul (i := (R : Int)) (j := (C : Int)) (ev_var 3) (ev_var 4) (.inl ⟨by omega, by omega⟩)) (ev_var 10))) (by rw [decide_eq_true rfl]; rfl)) (fun _ => EvT.is (et_neI (i := (ms.length : Int)) (Ev.is (ev_view hib fun x hx => EvV.dat (vmeth0 (sv := .d (.int (weightB B.rows b))) fwe r3 tg.c.c (vv 9) (bagV_open tg hib hx).is ⟨a, B, b, x, rfl, bagO_open tg hib hx, rfl⟩)) (by rw [pk.wei])) (Ev.is (ev_lenL (ds := ms.map fun m => shD m.enc) t.len (ev_var 2)) (by rw [List.length_map]))) (by rw [decide_eq_true rfl]; rfl))) rfl) ⟨(fun h => (by cases h)), fun _ => sb_nil ?_⟩))
        exact ⟨b, _, _, _, _, rfl, rfl⟩
  rintro ρ' w' ⟨b, o8, o11, o12, o13, rfl, rfl⟩
  refine sb_cons (s_asg 14 nd (emake fmb r2 (va_cons (vv 7) (va_cons (vv 3) (va_one (vv 4)))) fun fa fdx hne => ⟨_, fa, fdx, B, (R : Int), (C : Int), rfl, hne, rfl, ?_⟩))
  rw [if_pos (by omega)]
  refine ⟨rfl, ?_⟩
  rw [Int.toNat_natCast, Int.toNat_natCast]
  show SB _ CA (ThW R0) _ (W51 K CA sa ta ns n4 B a b [bagAt CA fa B ⟨R, C, 0, []⟩]) _ _
  have hinF : ∀ c, BagOk B.rows c → InBag CA (W51 K CA sa ta ns n4 B a b [bagAt CA fa B c]) fa B c 4 2 := fun c o => ⟨rfl, rfl, by decide, o, by rw [eBr]; exact good⟩
  refine sb_cons (s_asg 15 nd (es_sum rfl hsu (es_lcS rfl nd (own := [("k", 8)]) (blkOk_by (N := T.N_law) (sc := defScope T.s_law) (by decide +kernel)) (lcS (fun i : Nat => PyData.int (i : Int)) (esi_rangeN t.range (Ev.s (d := .int ((ms.length : Nat) : Int)) (Ev.is (ev_lenL (ds := ms.map fun m => shD m.enc) t.len (ev_var 2)) (by rw [List.length_map])) ⟨ms.length, rfl, by omega, List.range ms.length, rfl, by rw [List.length_range]; exact Nat.lt_of_le_of_lt (show _ ≤ 10 by omega) (by decide),
    (fun x : Nat => [some (.raw (.ref sa)), some (.raw (.ref ta)), some (.d (shsD ms)), some (.d (.int (R : Int))), some (.d (.int (C : Int))), some (.d (.bool may)), some (.d (wayD (packM ms R C may))), some (.raw (.ref B.b)), some (.d (.int (x : Int))), some (.raw (.ref a)), some (.d (.int (((ms.map fun m => m.cells.length).sum : Nat) : Int))), o11, o12, o13, some (.raw (.ref fa)), none, none]),
    (fun i acc w' => ∃ (ls : List Int) (c : Bag), acc = ls.map PyData.int ∧ w' = W51 K CA sa ta ns n4 B a b [bagAt CA fa B c] ∧ BagOk B.rows c ∧ 0 ≤ ls.sum ∧ (0 < ls.sum ∨ ∃ tk, Pkd B.rows ms R C i tk c ∧ Grown (everyM (ms.take i) R C may) tk)),
    ⟨[], _, rfl, rfl, pk0.ok, Int.le_refl _, .inr ⟨[], pk0, .nil⟩⟩, ?_, ?_⟩))))))
  · rintro i kk acc w' hi ⟨ls, c, rfl, rfl, okc, hge, hst⟩
    obtain ⟨rfl, hik⟩ := range_at hi
    obtain ⟨g1, g2, g3, g4⟩ := nmA_ok kk (by omega)
    have hget : aget B.rows (nmA kk) = some (kdA ms may kk) := by
      rw [eBr]
      exact ksI_get ms may hik
    have hkp := add_kept (ks := B.rows) (z := nmA kk) (k := kdA ms may kk) (m := 1) okc (by decide) hget (kdA_good hg kk) (Int.le_refl _)
    refine ⟨fun s H C cl fp => tg_name 8 nd (by decide), fun s H C cl fp => ests_nil ⟨fun _ s H C cl fp => ecall fad r8 (va_cons (vv 14) (va_cons (Ev.v (d := .str (nmA kk)) (ev_ixS (z := "abcd") ev_str (ev_var 8) g4 (by decide +kernel))) (va_one (Ev.v ev_int)))) ⟨fa, B, c, 4, 2, _, .ok (.d (.int (addK B.rows (kdA ms may kk) (nmA kk) c 1).2)), (addK B.rows (kdA ms may kk) (nmA kk) c 1).1, rfl, hinF c okc, ⟨nmA kk, 1, rfl, (add_ok51 hget (by decide)).symm⟩, ?_⟩, fun h => (by cases h)⟩⟩
    have hL : 0 ≤ (addK B.rows (kdA ms may kk) (nmA kk) c 1).2 := hkp.ge
    refine ⟨_, rfl, ls ++ [(addK B.rows (kdA ms may kk) (nmA kk) c 1).2], (addK B.rows (kdA ms may kk) (nmA kk) c 1).1, by rw [List.map_append]; rfl, rfl, hkp.ok, by rw [sum_app51]; omega, ?_⟩
    rw [sum_app51]
    rcases hst with h | ⟨tk, pk, gr⟩
    · exact .inl (by omega)
    · rw [eBr] at pk ⊢
      rcases pkd_add hg hik rfl pk gr with h | ⟨h0, tk', pk', gr'⟩
      · exact .inl (by omega)
      · exact .inr ⟨tk', pk', gr'⟩
  rintro acc w' ⟨ls, c, rfl, rfl, okc, hge, hst⟩
  rw [List.length_range, List.take_length] at hst
  refine ⟨ls, rfl, ?_⟩
  refine sb_one (s_ret (Ev.s (d := .bool true) (Ev.is (ev_or (ev_gt (ev_var 15) ev_int) (fun _ => ev_one (ev_notN (ev_var 6)))) ?_) rfl))
  rcases hst with h | ⟨tk, pk, gr⟩
  · rw [decide_eq_true h]
    rfl
  · rw [wayn51, decide_eq_false (gr.pack hg), Bool.not_false, Bool.or_true]
end
end G
end

section
set_option Elab.async false
set_option linter.all false
set_option maxRecDepth 100000
set_option maxHeartbeats 0
namespace G
open PySem PySem.Spec PyProof.Rows L2 Sh He
section
variable {P : Program} {w : World} {K : PySem.W.Frag} {h : Heap} {mg : Str → Option Value}
theorem defT_of (X : K.In h) (G : h.Ns mainGlobals mg) (c : SaysD faL fnL K) (i j : Nat) {x : Str} {st : Stmt} (hi : fnL[i]? = some (dd x st)) (hj : faL[j]? = some (.glo x)) : DefT K mg x st := by
  obtain ⟨fd, F⟩ := c.def_ i (d := dd x st) hi
  exact ⟨_, fd, F, glo_ok X G (c.fact j (f := .glo x) hj)⟩
theorem methT_of (c : SaysD faL fnL K) (i j : Nat) {C m qual : Str} {st : Stmt} (hi : fnL[i]? = some (dm C m qual st)) (hj : faL[j]? = some (.meth C m)) : MethT K (ga K) C m qual st := by
  obtain ⟨fd, F⟩ := c.def_ i (d := dm C m qual st) hi
  exact ⟨_, fd, F, meth_ok (c.fact j (f := .meth C m) hj)⟩
theorem makeT_of (X : K.In h) (G : h.Ns mainGlobals mg) (c : SaysD faL fnL K) (i j k : Nat) {C qual : Str} {st : Stmt} (hi : fnL[i]? = some (dm C "__init__" qual st)) (hj : faL[j]? = some (.mkr C)) (hk : faL[k]? = some (.glo C)) : MakeT K mg (ga K) C qual st := by
  obtain ⟨fd, F⟩ := c.def_ i (d := dm C "__init__" qual st) hi
  exact ⟨_, fd, F, mkr_ok (c.fact j (f := .mkr C) hj), glo_ok X G (c.fact k (f := .glo C) hk)⟩
theorem excT_of (X : K.In h) (G : h.Ns mainGlobals mg) (c : SaysD faL fnL K) (i j : Nat) {x : Str} (hi : faL[i]? = some (.exc x)) (hj : faL[j]? = some (.glo x)) : ExcT K mg (ga K) x := by
  obtain ⟨h1, h2, h3, h4⟩ := exc_ok (c.fact i (f := .exc x) hi)
  exact ⟨h1, glo_ok X G (c.fact j (f := .glo x) hj), h2, h3, h4⟩
theorem factsL {f : Addr} (X : K.In h) (G : h.Ns mainGlobals mg) (hfa : mg ("law" : Str) = some (.ref f)) (c : SaysD faL fnL K) (e : exL K = true) :
    ∃ fd : FuncData, (∀ (s : Shared) (v : Value), BindsTo s fd ⟨[v], []⟩ [("script", v)]) ∧ ∀ base : Heap, K.In base → base.Ns mainGlobals mg → FnOk P w K mg base (L2.CX P w) 9 f fd ["script"] (lift (ga K) (pmLaw K)) := by
  have e1 : errsB [] K = true := (Bool.and_eq_true_iff.mp e).1
  have bnd : BndT K (ga K "Bag") "place_of" := fun g t => bmB_ok (Bool.and_eq_true_iff.mp e).2 t
  have tx := True.intro
  have D_look_shape : DefT K mg "look_shape" T.s_look_shape := defT_of X G c 0 26 rfl rfl
  have D_turn_once : DefT K mg "turn_once" T.s_turn_once := defT_of X G c 1 27 rfl rfl
  have D_turned : DefT K mg "turned" T.s_turned := defT_of X G c 2 28 rfl rfl
  have D_cells : DefT K mg "cells" T.s_cells := defT_of X G c 3 29 rfl rfl
  have D_turns_of : DefT K mg "turns_of" T.s_turns_of := defT_of X G c 4 30 rfl rfl
  have D_look_packing : DefT K mg "look_packing" T.s_look_packing := defT_of X G c 5 31 rfl rfl
  have D_spots : DefT K mg "spots" T.s_spots := defT_of X G c 6 32 rfl rfl
  have D_packing : DefT K mg "packing" T.s_packing := defT_of X G c 7 33 rfl rfl
  have D_laid : DefT K mg "laid" T.s_laid := defT_of X G c 8 34 rfl rfl
  have D_ways : DefT K mg "ways" T.s_ways := defT_of X G c 9 35 rfl rfl
  have D_count_ways : DefT K mg "count_ways" T.s_count_ways := defT_of X G c 10 36 rfl rfl
  have N_Pile : MakeT K mg (ga K) "Pile" "Pile.__init__" T.s_Pile_init := makeT_of X G c 11 52 23 rfl rfl rfl
  have M_Pile_told : MethT K (ga K) "Pile" "told" "Pile.told" T.s_Pile_told := methT_of c 12 64 rfl rfl
  have N_Bag : MakeT K mg (ga K) "Bag" "Bag.__init__" T.s_Bag_init := makeT_of X G c 13 60 24 rfl rfl rfl
  have M_Bag_cells_of : MethT K (ga K) "Bag" "cells_of" "Bag.cells_of" T.s_Bag_cells_of := methT_of c 14 65 rfl rfl
  have M_Bag_is_free : MethT K (ga K) "Bag" "is_free" "Bag.is_free" T.s_Bag_is_free := methT_of c 15 66 rfl rfl
  have M_Bag_fits : MethT K (ga K) "Bag" "fits" "Bag.fits" T.s_Bag_fits := methT_of c 16 67 rfl rfl
  have M_Bag_look_many : MethT K (ga K) "Bag" "look_many" "Bag.look_many" T.s_Bag_look_many := methT_of c 17 68 rfl rfl
  have M_Bag_lay : MethT K (ga K) "Bag" "lay" "Bag.lay" T.s_Bag_lay := methT_of c 18 69 rfl rfl
  have M_Bag_lift : MethT K (ga K) "Bag" "lift" "Bag.lift" T.s_Bag_lift := methT_of c 19 70 rfl rfl
  have M_Bag_put : MethT K (ga K) "Bag" "put" "Bag.put" T.s_Bag_put := methT_of c 20 71 rfl rfl
  have M_Bag_need : MethT K (ga K) "Bag" "need" "Bag.need" T.s_Bag_need := methT_of c 21 72 rfl rfl
  have M_Bag_pile : MethT K (ga K) "Bag" "pile" "Bag.pile" T.s_Bag_pile := methT_of c 22 73 rfl rfl
  have M_Bag_numbers : MethT K (ga K) "Bag" "numbers" "Bag.numbers" T.s_Bag_numbers := methT_of c 23 74 rfl rfl
  have M_Bag_place_of : MethT K (ga K) "Bag" "place_of" "Bag.place_of" T.s_Bag_place_of := methT_of c 24 75 rfl rfl
  have M_Bag_at : MethT K (ga K) "Bag" "at" "Bag.at" T.s_Bag_at := methT_of c 25 76 rfl rfl
  have M_Bag_take : MethT K (ga K) "Bag" "take" "Bag.take" T.s_Bag_take := methT_of c 26 77 rfl rfl
  have M_Bag_pile_up : MethT K (ga K) "Bag" "pile_up" "Bag.pile_up" T.s_Bag_pile_up := methT_of c 27 78 rfl rfl
  have M_Bag_join : MethT K (ga K) "Bag" "join" "Bag.join" T.s_Bag_join := methT_of c 28 79 rfl rfl
  have M_Bag_weight : MethT K (ga K) "Bag" "weight" "Bag.weight" T.s_Bag_weight := methT_of c 29 80 rfl rfl
  have M_Bag_free : MethT K (ga K) "Bag" "free" "Bag.free" T.s_Bag_free := methT_of c 30 81 rfl rfl
  have D_look_name : DefT K mg "look_name" T.s_look_name := defT_of X G c 31 37 rfl rfl
  have N_Book : MakeT K mg (ga K) "Book" "Book.__init__" T.s_Book_init := makeT_of X G c 32 63 25 rfl rfl rfl
  have M_Book_add : MethT K (ga K) "Book" "add" "Book.add" T.s_Book_add := methT_of c 33 82 rfl rfl
  have M_Book_need : MethT K (ga K) "Book" "need" "Book.need" T.s_Book_need := methT_of c 34 83 rfl rfl
  have M_Book_names : MethT K (ga K) "Book" "names" "Book.names" T.s_Book_names := methT_of c 35 84 rfl rfl
  have M_Book_shape : MethT K (ga K) "Book" "shape" "Book.shape" T.s_Book_shape := methT_of c 36 85 rfl rfl
  have M_Book_most : MethT K (ga K) "Book" "most" "Book.most" T.s_Book_most := methT_of c 37 86 rfl rfl
  have M_Book_turns : MethT K (ga K) "Book" "turns" "Book.turns" T.s_Book_turns := methT_of c 38 87 rfl rfl
  have M_Book_weight : MethT K (ga K) "Book" "weight" "Book.weight" T.s_Book_weight := methT_of c 39 88 rfl rfl
  have D_first_place : DefT K mg "first_place" T.s_first_place := defT_of X G c 40 38 rfl rfl
  have D_look_many : DefT K mg "look_many" T.s_look_many := defT_of X G c 41 39 rfl rfl
  have D_add : DefT K mg "add" T.s_add := defT_of X G c 42 40 rfl rfl
  have D_law_cell : DefT K mg "_law_cell" T.s_law_cell := defT_of X G c 43 41 rfl rfl
  have D_law_mix : DefT K mg "_law_mix" T.s_law_mix := defT_of X G c 44 42 rfl rfl
  have D_law_draw : DefT K mg "_law_draw" T.s_law_draw := defT_of X G c 45 43 rfl rfl
  have D_law_shape : DefT K mg "_law_shape" T.s_law_shape := defT_of X G c 46 44 rfl rfl
  have F_ValueError : mg "ValueError" = none := free_ok X G (c.fact 89 (f := .free "ValueError") rfl)
  have F_all : mg "all" = none := free_ok X G (c.fact 90 (f := .free "all") rfl)
  have F_any : mg "any" = none := free_ok X G (c.fact 91 (f := .free "any") rfl)
  have F_int : mg "int" = none := free_ok X G (c.fact 92 (f := .free "int") rfl)
  have F_len : mg "len" = none := free_ok X G (c.fact 93 (f := .free "len") rfl)
  have F_max : mg "max" = none := free_ok X G (c.fact 94 (f := .free "max") rfl)
  have F_min : mg "min" = none := free_ok X G (c.fact 95 (f := .free "min") rfl)
  have F_range : mg "range" = none := free_ok X G (c.fact 96 (f := .free "range") rfl)
  have F_set : mg "set" = none := free_ok X G (c.fact 97 (f := .free "set") rfl)
  have F_sorted : mg "sorted" = none := free_ok X G (c.fact 98 (f := .free "sorted") rfl)
  have F_sum : mg "sum" = none := free_ok X G (c.fact 99 (f := .free "sum") rfl)
  have F_tuple : mg "tuple" = none := free_ok X G (c.fact 100 (f := .free "tuple") rfl)
  have I_MOST_SIDE_shapes : ∃ t, mg "MOST_SIDE_shapes" = some (.int 4 t) := int_ok X G (c.fact 0 (f := .int "MOST_SIDE_shapes" 4) rfl)
  have I_CELL : ∃ t, mg "CELL" = some (.str "#" t) := str_ok X G (c.fact 1 (f := .str "CELL" "#") rfl)
  have I_GAP : ∃ t, mg "GAP" = some (.str "." t) := str_ok X G (c.fact 2 (f := .str "GAP" ".") rfl)
  have I_MOST_SHAPES : ∃ t, mg "MOST_SHAPES" = some (.int 5 t) := int_ok X G (c.fact 3 (f := .int "MOST_SHAPES" 5) rfl)
  have I_MOST_COUNTED : ∃ t, mg "MOST_COUNTED" = some (.int 4 t) := int_ok X G (c.fact 4 (f := .int "MOST_COUNTED" 4) rfl)
  have I_MOST_SIDE_packing : ∃ t, mg "MOST_SIDE_packing" = some (.int 4 t) := int_ok X G (c.fact 5 (f := .int "MOST_SIDE_packing" 4) rfl)
  have I_MOST_SIDE_bags : ∃ t, mg "MOST_SIDE_bags" = some (.int 10 t) := int_ok X G (c.fact 6 (f := .int "MOST_SIDE_bags" 10) rfl)
  have I_SMALL : ∃ t, mg "SMALL" = some (.str "abcdefghijklmnopqrstuvwxyz" t) := str_ok X G (c.fact 7 (f := .str "SMALL" "abcdefghijklmnopqrstuvwxyz") rfl)
  have I_MOST_NAME : ∃ t, mg "MOST_NAME" = some (.int 8 t) := int_ok X G (c.fact 8 (f := .int "MOST_NAME" 8) rfl)
  have I_MOST_PILE : ∃ t, mg "MOST_PILE" = some (.int 99 t) := int_ok X G (c.fact 9 (f := .int "MOST_PILE" 99) rfl)
  have I_MOST_WEIGHT : ∃ t, mg "MOST_WEIGHT" = some (.int 999 t) := int_ok X G (c.fact 10 (f := .int "MOST_WEIGHT" 999) rfl)
  have I_MOST_KINDS : ∃ t, mg "MOST_KINDS" = some (.int 30 t) := int_ok X G (c.fact 11 (f := .int "MOST_KINDS" 30) rfl)
  have E_BadShape : ExcT K mg (ga K) "BadShape" := excT_of X G c 12 18 rfl rfl
  have E_BadKind : ExcT K mg (ga K) "BadKind" := excT_of X G c 13 19 rfl rfl
  have E_BadNumber : ExcT K mg (ga K) "BadNumber" := excT_of X G c 14 20 rfl rfl
  have E_BadPlace : ExcT K mg (ga K) "BadPlace" := excT_of X G c 15 21 rfl rfl
  have E_BadPile : ExcT K mg (ga K) "BadPile" := excT_of X G c 16 22 rfl rfl
  have C_Pile : ClsT K mg (ga K) "Pile" ["kind", "many", "turn", "row", "column"] := ⟨cls_ok (c.fact 46 (f := .cls "Pile") rfl), glo_ok X G (c.fact 23 (f := .glo "Pile") rfl), fun f hf => by
    simp only [List.mem_cons, List.not_mem_nil, or_false] at hf
    rcases hf with rfl | rfl | rfl | rfl | rfl
    · exact noat_ok (c.fact 47 (f := .noat "Pile" "kind") rfl)
    · exact noat_ok (c.fact 48 (f := .noat "Pile" "many") rfl)
    · exact noat_ok (c.fact 49 (f := .noat "Pile" "turn") rfl)
    · exact noat_ok (c.fact 50 (f := .noat "Pile" "row") rfl)
    · exact noat_ok (c.fact 51 (f := .noat "Pile" "column") rfl)⟩
  have C_Bag : ClsT K mg (ga K) "Bag" ["book", "rows", "columns", "piles", "last", "grid"] := ⟨cls_ok (c.fact 53 (f := .cls "Bag") rfl), glo_ok X G (c.fact 24 (f := .glo "Bag") rfl), fun f hf => by
    simp only [List.mem_cons, List.not_mem_nil, or_false] at hf
    rcases hf with rfl | rfl | rfl | rfl | rfl | rfl
    · exact noat_ok (c.fact 54 (f := .noat "Bag" "book") rfl)
    · exact noat_ok (c.fact 55 (f := .noat "Bag" "rows") rfl)
    · exact noat_ok (c.fact 56 (f := .noat "Bag" "columns") rfl)
    · exact noat_ok (c.fact 57 (f := .noat "Bag" "piles") rfl)
    · exact noat_ok (c.fact 58 (f := .noat "Bag" "last") rfl)
    · exact noat_ok (c.fact 59 (f := .noat "Bag" "grid") rfl)⟩
  have C_Book : ClsT K mg (ga K) "Book" ["rows"] := ⟨cls_ok (c.fact 61 (f := .cls "Book") rfl), glo_ok X G (c.fact 25 (f := .glo "Book") rfl), fun f hf => by
    simp only [List.mem_cons, List.not_mem_nil, or_false] at hf
    subst hf
    exact noat_ok (c.fact 62 (f := .noat "Book" "rows") rfl)⟩
  obtain ⟨fd, F⟩ := c.def_ 47 (d := dd "law" T.s_law) rfl
  have ee := hfa.symm.trans (glo_ok X G (c.fact 45 (f := .glo "law") rfl))
  cases ee
  have b := FunD.bindsA (ps := ["script"]) F fun _ _ _ _ _ _ us hl => match us, hl with | [_], _ => rfl
  refine ⟨fd, fun s v => b s [v] rfl, fun base _ _ => ?_⟩
  have t : TxtS K mg (ga K) := ⟨F_len, F_all, F_any, F_range, F_tuple, I_MOST_SIDE_shapes, I_CELL, I_GAP, E_BadShape, D_look_shape⟩
  have t2 : TxtL mg := ⟨F_min, F_max, F_int, F_sorted⟩
  have ta : TxtA mg := ⟨I_MOST_PILE, I_MOST_WEIGHT, I_MOST_KINDS, F_sorted, F_set⟩
  have tb : TxtB K mg (ga K) := ⟨C_Book, E_BadKind, E_BadNumber⟩
  have tn : TxtN K mg (ga K) := ⟨I_SMALL, I_MOST_NAME, E_BadKind, D_look_name⟩
  have tg : TxtG K mg (ga K) := ⟨C_Bag, C_Pile, C_Book, E_BadNumber, E_BadPlace, E_BadPile, E_BadKind, I_MOST_SIDE_bags⟩
  have fl : LookF P w K mg base (ga K) := ok_look t
  have fo := ok_turn_once (P := P) (w := w) (base := base) t D_turn_once
  have ft : TurnedF P w K mg base (ga K) := ok_turned t D_turned fl fo
  have fu : TurnsF P w K mg base (ga K) := ok_turns_of t D_turns_of fl ft
  have fc : CellsF P w K mg base (ga K) := ok_cells t D_cells fl
  have f1 := ok_cell (P := P) (w := w) (base := base) t D_law_cell
  have f2 := ok_mix t D_law_mix f1
  have f3 := ok_draw t D_law_draw f2
  have f6 := ok_shape t t2 D_law_shape f3
  have g1 := ok_name (P := P) (w := w) (base := base) t tn
  have g2 := ok_book (P := P) (w := w) (base := base) tb N_Book
  have g3 := ok_badd t ta tb fl g1 M_Book_add
  have g4 : NeedF P w K mg base (ga K) := ok_need tb M_Book_need
  have g5 := ok_bshape tb g4 M_Book_shape
  have g6 := ok_bmost tb g4 M_Book_most
  have g8 := ok_bturns t tb fu g4 M_Book_turns
  have q1 : CellsOfF P w K mg base (ga K) := ok_cells_of tg g5 ft fc M_Bag_cells_of
  have q2 : FreeF P w K mg base (ga K) := ok_is_free tg M_Bag_is_free
  have q3 : FitsF P w K mg base (ga K) := ok_fits tg g8 q1 q2 M_Bag_fits
  have q4 : ManyF P w K mg base (ga K) := ok_look_many tg g4 g6 M_Bag_look_many
  have q5 : LayF P w K mg base (ga K) := ok_lay tg q1 M_Bag_lay
  have q6 : MPileF P w K mg base (ga K) := ok_pile tg N_Pile
  have q7 : MBagF P w K mg base (ga K) := ok_bag tg N_Bag
  have q8 : PutF P w K mg base (ga K) := ok_put tg q4 q3 q5 q6 M_Bag_put
  have q11 : PlaceF P w K mg base (ga K) := ok_place_of tg q1 M_Bag_place_of
  have q12 : NumsF P w K mg base (ga K) := ok_numbers tg F_sorted bnd q11 M_Bag_numbers
  have q13 : PToldF P w K mg base (ga K) := ok_ptold M_Pile_told
  have q15 : BNeedF P w K mg base (ga K) := ok_bag_need tg M_Bag_need
  have q17 : LiftF P w K mg base (ga K) := ok_lift tg q1 M_Bag_lift
  have q18 : TakeF P w K mg base (ga K) := ok_take tg q15 q17 M_Bag_take
  have q19 : PileUpF P w K mg base (ga K) := ok_pile_up F_min tg q15 g6 M_Bag_pile_up
  have g10 := ok_bnames (P := P) (w := w) (base := base) F_sorted tb M_Book_names
  have q24 := ok_free (P := P) (w := w) (base := base) (CA := ga K) F_len tg M_Bag_free
  have u1 : FirstPF P w K mg base (ga K) := ok_first_place t tg g8 q3 D_first_place
  have u2 : LookMF P w K mg base (ga K) := ok_look_manyF tg D_look_many
  have u3 : AddF P w K mg base (ga K) := ok_add F_min tg g4 u2 q12 q19 u1 g6 q8 trivial D_add
  have g7 := ok_bweight (P := P) (w := w) (base := base) tb g4 M_Book_weight
  have q22 : WeighF P w K mg base (ga K) := ok_weigh F_sum tg g7 M_Bag_weight
  have tp : TxtP K mg (ga K) := ⟨I_MOST_SIDE_packing, I_MOST_SHAPES, I_MOST_COUNTED, F_sum, E_BadNumber⟩
  have p1 := ok_lookP (P := P) (w := w) (base := base) t tp D_look_packing
  have p2 := ok_spots t D_spots ft fc fu
  have p3 := cw_all (P := P) (w := w) (base := base) (CA := ga K) t D_count_ways 4
  have p4 := laid_all (P := P) (w := w) (base := base) (CA := ga K) t D_laid 5 (by decide)
  have p5 := ok_ways t tp p1 p2 p3 D_ways
  have p6 := ok_packing t tp p1 p2 fc p4 D_packing
  exact ok_law51 F_sum t tb tg F f3 f6 p6 p5 g2 g3 q7 fc q3 q8 q24 q22 u3
end
theorem law_starts {K : PySem.W.Frag} {CA : Str → Addr} (H : Hp) (a : Addr) (ns : List Int) (hl : ns.length ≤ 63) (hS : SqL K H a (ns.map V.int)) : lift CA (pmLaw K) [.ref a] H (fun v _ => v = .bl true) fun _ _ _ => False :=
  ⟨H, no, ⟨Same.refl H, (fun _ _ e => by cases e), (fun _ _ e => by cases e), fun _ => .inr rfl, fun _ => .inr rfl, fun _ => .inl rfl⟩, a, ns, rfl, hS, hl, fun F' M' _ H' _ => rfl⟩
theorem no_cx {P : Program} (w : World) (H : Hp) (s : Shared) (e : Value) (s' : Shared) (h : L2.CX P w [] H s (fun _ _ _ => False) e s') : False := by
  obtain ⟨_, _, _, _, _, _, _, _, _, _, _, _, z⟩ := h
  exact z
end G
open PySem PySem.W PySem.Calls PyProof.Rows
theorem PySem.Challenge.cw_cellbag_k51_whole_packed_in_bags_holds : PySem.Challenge.rw_cellbag_k51_whole_packed_in_bags.Holds := by
  w_on; o_law
  refine HandSHeadRun.head_any (r := OpenLaw.row PySem.Challenge.rw_cellbag_k51_whole_packed_in_bags) (q := view (OpenLaw.row PySem.Challenge.rw_cellbag_k51_whole_packed_in_bags).prog [48]) (H := G.hkL) (ob := G.obL) (M := 10000) (loose := G.looseL) (d := HandSHeadRun.topDef (OpenLaw.row PySem.Challenge.rw_cellbag_k51_whole_packed_in_bags).prog 48) (kwd := []) G.obL_eq
    (by kernel_rfl) (fun s => by kernel_rfl) G.runL (by kernel_rfl) (by kernel_rfl) (by kernel_rfl) (by rfl) (by first | assumption | decide +kernel) (by decide +kernel) ⟨rfl, rfl, rfl, rfl, rfl, by decide +kernel⟩ ?hw ?hc
  case hw => w_witness2
  case hc =>
    refine G.walkW (l := PySem.Challenge.rw_cellbag_k51_whole_packed_in_bags) (n := 63) (k := 9) (x := "script") (CX := fun w => L2.CX (PySem.Challenge.rw_cellbag_k51_whole_packed_in_bags).prog w) rfl (by decide) (by kernel_rfl) ⟨rfl, by decide, by decide⟩ ?F (fun w H s e s' z => G.no_cx w H s e s' z)
    intro w mg fa h Y Gn hmg0
    obtain ⟨K, KX, c, e⟩ := Y
    have hmg : mg ("law" : PySem.Str) = some (.ref fa) := by
      have e : (HandSHeadRun.topDef (OpenLaw.row PySem.Challenge.rw_cellbag_k51_whole_packed_in_bags).prog 48).name = ("law" : PySem.Str) := by kernel_rfl
      rw [← e]
      exact hmg0
    obtain ⟨fd, hb, hF⟩ := G.factsL (P := (PySem.Challenge.rw_cellbag_k51_whole_packed_in_bags).prog) (w := w) KX Gn hmg c e
    exact ⟨K, fd, _, KX, hb, fun H a ns hl _ hS => G.law_starts H a ns hl hS, hF⟩
end
