import PyProof.Rows.All
import Wide.All
import OpenK.AllK
import Wide.FinOn
import HandS.Words
import HandS.Ends
import HandS.EndBits
import HandS.Defaults
import HandS.Head0
import HandS.Head1
import HandS.Head2
import HandS.HeadEnd
import HandS.HeadHook1
import HandS.HeadHook2
import HandS.HeadHook3
import HandS.HeadHook4
import HandS.EndTab
import HandS.HeadWalk
import HandS.Lambda
import HandS.SortKw
import KE.SortKeyHeap
import KE.DataFind
import HandS.ForMost
import HandS.ForExc
import HandS.Wide
import HandS.IsInst
import HandS.Walk
import HandS.Deep
import HandS.Steps
import HandS.SortInts
import HandS.TryOnly
import HandS.More
import HandS.Rev
import HandS.Dict
import KE.DataMinMax
import HandS.New0
import HandS.Conv
import HandS.NestedK
import HandS.TupLe
import HandS.TupAny
import HandS.ExcIs
import KE.DataCmp
import KE.KRevIter
import HandS.RevTup
import KE.GoesMore
import PyProof.Rows.CallKwBuiltin
import HandS.SetFor
import HandS.RevRange
import HandS.Flow
import KE.DatumOrd
import PySem.Challenge.RW_stylehouse_k13_gathered
set_option Elab.async false
section
set_option linter.all false
set_option maxRecDepth 100000
set_option maxHeartbeats 4000000
/-! AM, the head's looks: over the whole heap, no search for what is reached. -/
namespace AM
open PySem L2 PyProof.Rows He

/-- a world by one of the model's choices -/
def w1 (b : Bool) (w : World) : World := { w with params := { w.params with followText := fun r => if r == "special-get-raises" then b else w.params.followText r } }
theorem w1_eq (w : World) : w1 (w.params.followText "special-get-raises") w = w := by
  have h : (fun r => if r == "special-get-raises" then w.params.followText "special-get-raises" else w.params.followText r) = w.params.followText := by
    funext r
    by_cases e : r = "special-get-raises"
    · subst e; simp
    · simp [e]
  unfold w1
  rw [h]
/-- an entry of a written dict: a tuple of plain things -/
def entB (K : PySem.W.Frag) (A : Addr) (s : Str) (vs : List He.Dv) : Bool := match PySem.W.nsIn K A s with
  | some (some (.ref a)) => (match K.lookup a with
    | some o => (match o.cls, o.data with
      | .type c, .seq its _ => decide (c = "tuple") && decide (its.size ≤ sizeLine) && He.relAll (vs.map (He.Dv.v K)) its.toList
      | _, _ => false)
    | none => false)
  | _ => false
theorem entB_ok {K : PySem.W.Frag} {A : Addr} {s : Str} {vs : List He.Dv} (h : entB K A s vs = true) : ∃ a, PySem.W.nsIn K A s = some (some (.ref a)) ∧ ∀ H, SqT K H a (vs.map (He.Dv.v K)) := by
  unfold entB at h
  split at h
  · rename_i a e
    refine ⟨a, e, fun H => ?_⟩
    split at h
    · rename_i o ho
      split at h
      · rename_i c its n hc hd
        obtain ⟨h12, h3⟩ := ba h
        obtain ⟨h1, h2⟩ := ba h12
        exact .inr ⟨o, its, n, ho, by rw [hc, of_decide_eq_true h1], hd, of_decide_eq_true h2, He.relAll_ok h3⟩
      · cases h
    · cases h
  · cases h
/-! ### the Hook -/
/-- the numbers below n, the greatest first -/
def downs : Nat → List Addr
  | 0 => []
  | n + 1 => n :: downs n
/-- all addresses, the module's first -/
def asZ (n : Nat) : List Addr := mainGlobals :: downs n
def obsZ (fa : List Fa) (fn : List DefD) (ts : List He.Tab) (tf : List Defn) (ex : PySem.W.Frag → Bool) (n : Nat) (g : Addr → Option Obj) : AlX := (obsT fa fn ts (frT g (asZ n)), ex (frT g (asZ n)) && tabsB g tf (frT g (asZ n)))
theorem saysZ_of {n : Nat} {fa : List Fa} {fn : List DefD} {ts : List He.Tab} {tf : List Defn} {ex : PySem.W.Frag → Bool} {w : World} {h : Heap} (e : obsZ fa fn ts tf ex n h.get? = valX fn ts w) : SaysX fa fn ts tf ex w h (frT h.get? (asZ n)) := by
  have e1 : obsT fa fn ts (frT h.get? (asZ n)) = valT fn ts w := congrArg (fun z : AlX => z.1) e
  have e2 : (ex (frT h.get? (asZ n)) && tabsB h.get? tf (frT h.get? (asZ n))) = true := congrArg (fun z : AlX => z.2) e
  obtain ⟨h1, h2⟩ := He.ba e2
  have key : ∀ p ∈ tf, PySem.W.codeHdIn (frT h.get? (asZ n)) (cT (frT h.get? (asZ n)) p).1 (cT (frT h.get? (asZ n)) p).2 = true ∧ ∃ o, h.get? (cT (frT h.get? (asZ n)) p).2 = some o ∧ emptyTab o = true := fun p hp => by
    obtain ⟨h3, h4⟩ := He.ba (List.all_eq_true.mp h2 p hp)
    refine ⟨h3, ?_⟩
    cases q : h.get? (cT (frT h.get? (asZ n)) p).2 with
    | none =>
      rw [q] at h4
      cases h4
    | some o =>
      rw [q] at h4
      exact ⟨o, rfl, h4⟩
  exact ⟨e1, h1, fun p hp => (key p hp).1, fun p hp => by
    obtain ⟨_, o, q, z⟩ := key p hp
    exact frT_none q z, fun p hp => by
    obtain ⟨_, o, q, z⟩ := key p hp
    rw [q, emptyTab_eq z]⟩
def hookZ (fa : List Fa) (fn : List DefD) (ts : List He.Tab) (tf : List Defn) (ex : PySem.W.Frag → Bool) : PySem.W.Hook where
  α := AlX
  obs := fun s => obsZ fa fn ts tf ex s.heap.objs.size s.heap.get?
  val := fun w => valX fn ts w
  says := fun w h => ∃ K : PySem.W.Frag, K.In h ∧ SaysX fa fn ts tf ex w h K
  of := fun _ _ e => ⟨_, frT_in, saysZ_of e⟩
  keeps := fun _ _ _ ⟨K, hK, c⟩ k => ⟨K, PySem.W.Frag.In.keeps hK k, ⟨c.t, c.more, c.hd, c.out, fun p hp => k _ _ (c.empty p hp)⟩⟩
/-- .. off the tree -/
def obZ (fa : List Fa) (fn : List DefD) (ts : List He.Tab) (tf : List Defn) (ex : PySem.W.Frag → Bool) (s : PySem.W.SharedT) : AlX := HandSHeadRun.frNat s.n fun n => obsZ fa fn ts tf ex n (HandSHeadRun.getT s)
theorem obZ_eq (fa : List Fa) (fn : List DefD) (ts : List He.Tab) (tf : List Defn) (ex : PySem.W.Frag → Bool) (s : PySem.W.SharedT) : obZ fa fn ts tf ex s = (hookZ fa fn ts tf ex).obs s.abs := by
  unfold obZ
  rw [HandSHeadRun.frNat_eq]
  show obsZ fa fn ts tf ex s.n (HandSHeadRun.getT s) = obsZ fa fn ts tf ex s.abs.heap.objs.size s.abs.heap.get?
  rw [show HandSHeadRun.getT s = s.abs.heap.get? from funext (HandSHeadRun.getT_eq s), show s.abs.heap.objs.size = s.n from PySem.W.absHeap_size _ _ _]
end AM
end

section
set_option linter.all false
set_option maxRecDepth 100000
set_option maxHeartbeats 4000000
/-! the head, printed by gen.py -/
namespace Hd
open PySem PySem.Spec PyProof.Rows L2 AM
def top (i : Nat) : Stmt := PySem.Challenge.pw_stylehouse_k13_gathered.main.body.getD i (.Pass ⟨0, 0, 0, 0⟩)
def meth (i j : Nat) : Stmt := match top i with
  | .ClassDef _ _ _ b _ _ _ _ _ _ _ => b.getD j (.Pass ⟨0, 0, 0, 0⟩)
  | _ => .Pass ⟨0, 0, 0, 0⟩
def d_f__wall : He.DefD := ⟨("_wall", none), "_wall", "_wall", defArgs (top 0), defBody (top 0), defScope (top 0), [], []⟩
def d_f_beneath : He.DefD := ⟨("beneath", none), "beneath", "beneath", defArgs (top 2), defBody (top 2), defScope (top 2), [], []⟩
def d_f_gathered : He.DefD := ⟨("gathered", none), "gathered", "gathered", defArgs (top 3), defBody (top 3), defScope (top 3), [], []⟩
def d_f_is_name : He.DefD := ⟨("is_name", none), "is_name", "is_name", defArgs (top 13), defBody (top 13), defScope (top 13), [], []⟩
def d_f_l_cell : He.DefD := ⟨("_law_cell", none), "_law_cell", "_law_cell", defArgs (top 20), defBody (top 20), defScope (top 20), [], []⟩
def d_f_l_mix : He.DefD := ⟨("_law_mix", none), "_law_mix", "_law_mix", defArgs (top 21), defBody (top 21), defScope (top 21), [], []⟩
def d_f_l_name : He.DefD := ⟨("_law_name", none), "_law_name", "_law_name", defArgs (top 22), defBody (top 22), defScope (top 22), [], []⟩
def d_f_l_whole : He.DefD := ⟨("_law_whole", none), "_law_whole", "_law_whole", defArgs (top 23), defBody (top 23), defScope (top 23), [], []⟩
def d_f_l_same_row : He.DefD := ⟨("_law_same_row", none), "_law_same_row", "_law_same_row", defArgs (top 24), defBody (top 24), defScope (top 24), [], []⟩
def d_f_l_under : He.DefD := ⟨("_law_under", none), "_law_under", "_law_under", defArgs (top 25), defBody (top 25), defScope (top 25), [], []⟩
def d_f_l_deep : He.DefD := ⟨("_law_deep", none), "_law_deep", "_law_deep", defArgs (top 26), defBody (top 26), defScope (top 26), [], []⟩
def d_f_l_put : He.DefD := ⟨("_law_put", none), "_law_put", "_law_put", defArgs (top 27), defBody (top 27), defScope (top 27), [], []⟩
def d_f_l_moved : He.DefD := ⟨("_law_moved", none), "_law_moved", "_law_moved", defArgs (top 28), defBody (top 28), defScope (top 28), [], []⟩
def d_f_l_missing : He.DefD := ⟨("_law_missing", none), "_law_missing", "_law_missing", defArgs (top 29), defBody (top 29), defScope (top 29), [], []⟩
def d_f_l_tried : He.DefD := ⟨("_law_tried", none), "_law_tried", "_law_tried", defArgs (top 30), defBody (top 30), defScope (top 30), [], []⟩
def d_f_l_wanted : He.DefD := ⟨("_law_wanted", none), "_law_wanted", "_law_wanted", defArgs (top 31), defBody (top 31), defScope (top 31), [], []⟩
def d_f_law : He.DefD := ⟨("law", none), "law", "law", defArgs (top 32), defBody (top 32), defScope (top 32), [], []⟩
def d_f_Box_init : He.DefD := ⟨("Box", some "__init__"), "__init__", "Box.__init__", defArgs (meth 17 0), defBody (meth 17 0), defScope (meth 17 0), [], []⟩
def d_f_Tree_init : He.DefD := ⟨("Tree", some "__init__"), "__init__", "Tree.__init__", defArgs (meth 18 0), defBody (meth 18 0), defScope (meth 18 0), [], []⟩
def d_f_Tree_found : He.DefD := ⟨("Tree", some "found"), "found", "Tree.found", defArgs (meth 18 1), defBody (meth 18 1), defScope (meth 18 1), [], []⟩
def d_f_Tree_with_all : He.DefD := ⟨("Tree", some "with_all"), "with_all", "Tree.with_all", defArgs (meth 18 2), defBody (meth 18 2), defScope (meth 18 2), [], []⟩
def d_f_Tree_put : He.DefD := ⟨("Tree", some "put"), "put", "Tree.put", defArgs (meth 18 3), defBody (meth 18 3), defScope (meth 18 3), [], []⟩
def d_f_Tree_cut : He.DefD := ⟨("Tree", some "cut"), "cut", "Tree.cut", defArgs (meth 18 4), defBody (meth 18 4), defScope (meth 18 4), [], []⟩
def d_f_Tree_move : He.DefD := ⟨("Tree", some "move"), "move", "Tree.move", defArgs (meth 18 5), defBody (meth 18 5), defScope (meth 18 5), [], []⟩
def d_f_Tree_mark : He.DefD := ⟨("Tree", some "mark"), "mark", "Tree.mark", defArgs (meth 18 6), defBody (meth 18 6), defScope (meth 18 6), [], []⟩
def d_f_Tree_bare : He.DefD := ⟨("Tree", some "bare"), "bare", "Tree.bare", defArgs (meth 18 7), defBody (meth 18 7), defScope (meth 18 7), [], []⟩
def d_f_Tree_write : He.DefD := ⟨("Tree", some "write"), "write", "Tree.write", defArgs (meth 18 8), defBody (meth 18 8), defScope (meth 18 8), [], []⟩
def d_f_Tree_dress : He.DefD := ⟨("Tree", some "dress"), "dress", "Tree.dress", defArgs (meth 18 9), defBody (meth 18 9), defScope (meth 18 9), [], []⟩
def d_f_Tree_stands : He.DefD := ⟨("Tree", some "stands"), "stands", "Tree.stands", defArgs (meth 18 10), defBody (meth 18 10), defScope (meth 18 10), [], []⟩
def d_f_Tree_name_of : He.DefD := ⟨("Tree", some "name_of"), "name_of", "Tree.name_of", defArgs (meth 18 11), defBody (meth 18 11), defScope (meth 18 11), [], []⟩
def d_f_Tree_marks_of : He.DefD := ⟨("Tree", some "marks_of"), "marks_of", "Tree.marks_of", defArgs (meth 18 12), defBody (meth 18 12), defScope (meth 18 12), [], []⟩
def d_f_Tree_words_of : He.DefD := ⟨("Tree", some "words_of"), "words_of", "Tree.words_of", defArgs (meth 18 13), defBody (meth 18 13), defScope (meth 18 13), [], []⟩
def d_f_Tree_rows_of : He.DefD := ⟨("Tree", some "rows_of"), "rows_of", "Tree.rows_of", defArgs (meth 18 14), defBody (meth 18 14), defScope (meth 18 14), [], []⟩
def d_f_Tree_holder_of : He.DefD := ⟨("Tree", some "holder_of"), "holder_of", "Tree.holder_of", defArgs (meth 18 15), defBody (meth 18 15), defScope (meth 18 15), [], []⟩
def d_f_Tree_boxes_of : He.DefD := ⟨("Tree", some "boxes_of"), "boxes_of", "Tree.boxes_of", defArgs (meth 18 16), defBody (meth 18 16), defScope (meth 18 16), [], []⟩
def fn : List He.DefD := (d_f__wall :: d_f_beneath :: d_f_gathered :: d_f_is_name :: d_f_l_cell :: d_f_l_mix :: d_f_l_name :: d_f_l_whole :: d_f_l_same_row :: d_f_l_under :: d_f_l_deep :: d_f_l_put :: d_f_l_moved :: d_f_l_missing :: d_f_l_tried :: d_f_l_wanted :: d_f_law :: d_f_Box_init :: d_f_Tree_init :: d_f_Tree_found :: d_f_Tree_with_all :: d_f_Tree_put :: d_f_Tree_cut :: d_f_Tree_move :: d_f_Tree_mark :: d_f_Tree_bare :: d_f_Tree_write :: d_f_Tree_dress :: d_f_Tree_stands :: d_f_Tree_name_of :: d_f_Tree_marks_of :: d_f_Tree_words_of :: d_f_Tree_rows_of :: d_f_Tree_holder_of :: d_f_Tree_boxes_of :: [])
def fa : List He.Fa := [.glo "_wall",
  .glo "beneath",
  .glo "gathered",
  .glo "is_name",
  .glo "_law_cell",
  .glo "_law_mix",
  .glo "_law_name",
  .glo "_law_whole",
  .glo "_law_same_row",
  .glo "_law_under",
  .glo "_law_deep",
  .glo "_law_put",
  .glo "_law_moved",
  .glo "_law_missing",
  .glo "_law_tried",
  .glo "_law_wanted",
  .glo "law",
  .free "len",
  .free "abs",
  .free "isinstance",
  .free "int",
  .free "bool",
  .free "str",
  .free "tuple",
  .free "list",
  .free "dict",
  .free "range",
  .free "max",
  .free "min",
  .free "sum",
  .free "sorted",
  .free "reversed",
  .free "enumerate",
  .free "zip",
  .free "all",
  .free "any",
  .free "ord",
  .glo "HouseError",
  .exc "HouseError",
  .glo "NoBox",
  .exc "NoBox",
  .glo "Rooted",
  .exc "Rooted",
  .glo "NoPlace",
  .exc "NoPlace",
  .glo "NoName",
  .exc "NoName",
  .glo "TooMuch",
  .exc "TooMuch",
  .str "LETTERS" "abcdefghijklmnopqrstuvwxyz",
  .int "MOST_BOXES" 90,
  .int "MOST_DEEP" 12,
  .glo "Box",
  .cls "Box",
  .noat "Box" "name",
  .noat "Box" "holder",
  .noat "Box" "deep",
  .noat "Box" "row",
  .noat "Box" "marks",
  .noat "Box" "words",
  .noat "Box" "own",
  .mkr "Box",
  .glo "Tree",
  .cls "Tree",
  .noat "Tree" "standing",
  .noat "Tree" "coming",
  .meth "Tree" "found",
  .meth "Tree" "with_all",
  .meth "Tree" "put",
  .meth "Tree" "cut",
  .meth "Tree" "move",
  .meth "Tree" "mark",
  .meth "Tree" "bare",
  .meth "Tree" "write",
  .meth "Tree" "dress",
  .meth "Tree" "stands",
  .meth "Tree" "name_of",
  .meth "Tree" "marks_of",
  .meth "Tree" "words_of",
  .meth "Tree" "rows_of",
  .meth "Tree" "holder_of",
  .meth "Tree" "boxes_of",
  .mkr "Tree"]
def ex (K : PySem.W.Frag) : Bool := ([decide (PySem.W.findIn K (.ref (He.ga K "NoName")) "__getattribute__" = some (some (.builtin "BaseException.__getattribute__"))),
  decide (PySem.W.findIn K (.ref (He.ga K "NoName")) "__getattr__" = some none),
  decide (PySem.W.subIn K (.ref (He.ga K "NoName")) (.type "BaseException") = some true),
  PySem.W.hasDictIn K (He.ga K "NoName"),
  decide (PySem.W.findIn K (.ref (He.ga K "NoName")) "__class__" = some (some (.builtin "object.__class__"))),
  decide (PySem.W.specialIn K (.builtin "object.__class__") "__get__" = some (some (.builtin "getset_descriptor.__get__"))),
  decide (PySem.W.takesIn K (.builtin "object.__class__") = some true),
  decide (PySem.W.mroIn K (He.ga K "NoName") (.type "object") = some true),
  decide (PySem.W.kitOne K (.ref (He.ga K "NoName")) (.ref (He.ga K "NoBox")) = some false),
  decide (PySem.W.exmOne K (.ref (He.ga K "NoName")) (.ref (He.ga K "NoBox")) = some false),
  decide (PySem.W.findIn K (.ref (He.ga K "NoBox")) "__getattribute__" = some (some (.builtin "BaseException.__getattribute__"))),
  decide (PySem.W.findIn K (.ref (He.ga K "NoBox")) "__getattr__" = some none),
  decide (PySem.W.subIn K (.ref (He.ga K "NoBox")) (.type "BaseException") = some true),
  PySem.W.hasDictIn K (He.ga K "NoBox"),
  decide (PySem.W.findIn K (.ref (He.ga K "NoBox")) "__class__" = some (some (.builtin "object.__class__"))),
  decide (PySem.W.mroIn K (He.ga K "NoBox") (.type "object") = some true),
  decide (PySem.W.kitOne K (.ref (He.ga K "NoBox")) (.ref (He.ga K "NoBox")) = some true),
  decide (PySem.W.exmOne K (.ref (He.ga K "NoBox")) (.ref (He.ga K "NoBox")) = some true),
  decide (PySem.W.findIn K (.ref (He.ga K "NoPlace")) "__getattribute__" = some (some (.builtin "BaseException.__getattribute__"))),
  decide (PySem.W.findIn K (.ref (He.ga K "NoPlace")) "__getattr__" = some none),
  decide (PySem.W.subIn K (.ref (He.ga K "NoPlace")) (.type "BaseException") = some true),
  PySem.W.hasDictIn K (He.ga K "NoPlace"),
  decide (PySem.W.findIn K (.ref (He.ga K "NoPlace")) "__class__" = some (some (.builtin "object.__class__"))),
  decide (PySem.W.mroIn K (He.ga K "NoPlace") (.type "object") = some true),
  decide (PySem.W.kitOne K (.ref (He.ga K "NoPlace")) (.ref (He.ga K "NoBox")) = some false),
  decide (PySem.W.exmOne K (.ref (He.ga K "NoPlace")) (.ref (He.ga K "NoBox")) = some false),
  decide (PySem.W.findIn K (.ref (He.ga K "TooMuch")) "__getattribute__" = some (some (.builtin "BaseException.__getattribute__"))),
  decide (PySem.W.findIn K (.ref (He.ga K "TooMuch")) "__getattr__" = some none),
  decide (PySem.W.subIn K (.ref (He.ga K "TooMuch")) (.type "BaseException") = some true),
  PySem.W.hasDictIn K (He.ga K "TooMuch"),
  decide (PySem.W.findIn K (.ref (He.ga K "TooMuch")) "__class__" = some (some (.builtin "object.__class__"))),
  decide (PySem.W.mroIn K (He.ga K "TooMuch") (.type "object") = some true),
  decide (PySem.W.kitOne K (.ref (He.ga K "TooMuch")) (.ref (He.ga K "NoBox")) = some false),
  decide (PySem.W.exmOne K (.ref (He.ga K "TooMuch")) (.ref (He.ga K "NoBox")) = some false),
  decide (PySem.W.findIn K (.ref (He.ga K "Rooted")) "__getattribute__" = some (some (.builtin "BaseException.__getattribute__"))),
  decide (PySem.W.findIn K (.ref (He.ga K "Rooted")) "__getattr__" = some none),
  decide (PySem.W.subIn K (.ref (He.ga K "Rooted")) (.type "BaseException") = some true),
  PySem.W.hasDictIn K (He.ga K "Rooted"),
  decide (PySem.W.findIn K (.ref (He.ga K "Rooted")) "__class__" = some (some (.builtin "object.__class__"))),
  decide (PySem.W.mroIn K (He.ga K "Rooted") (.type "object") = some true),
  decide (PySem.W.kitOne K (.ref (He.ga K "Rooted")) (.ref (He.ga K "NoBox")) = some false),
  decide (PySem.W.exmOne K (.ref (He.ga K "Rooted")) (.ref (He.ga K "NoBox")) = some false),
  decide ((He.cT K ("_law_missing", none)).2 ≠ (He.cT K ("_law_tried", none)).2),
  decide ((He.cT K ("_law_missing", none)).2 ≠ (He.cT K ("law", none)).2),
  decide ((He.cT K ("_law_tried", none)).2 ≠ (He.cT K ("law", none)).2)] : List Bool).all id
abbrev fs : List Str := ["_wall", "beneath", "gathered", "is_name", "_law_cell", "_law_mix", "_law_name", "_law_whole", "_law_same_row", "_law_under", "_law_deep", "_law_put", "_law_moved", "_law_missing", "_law_tried", "_law_wanted", "law"]
abbrev xs : List Str := ["HouseError", "NoBox", "Rooted", "NoPlace", "NoName", "TooMuch"]
abbrev R : PySem.W.OpenRow := PySem.W.OpenLaw.row PySem.Challenge.rw_stylehouse_k13_gathered
abbrev tsx : List He.Tab := []
abbrev lamT : List (Str × He.Defn) := [("_law_missing.<locals>.<lambda>", ("_law_missing", none)), ("_law_tried.<locals>.<lambda>", ("_law_tried", none)), ("law.<locals>.<lambda>", ("law", none))]
abbrev hk : PySem.W.Hook := AM.hookZ fa fn tsx (lamT.map (·.2)) ex
def ob (s : PySem.W.SharedT) : He.AlX := AM.obZ fa fn tsx (lamT.map (·.2)) ex s
theorem ob_eq (s : PySem.W.SharedT) : ob s = hk.obs s.abs := AM.obZ_eq _ _ _ _ _ s
def loose : List Str := (["_wall", "beneath", "gathered", "HouseError", "NoBox", "Rooted", "NoPlace", "NoName", "TooMuch", "LETTERS", "is_name", "MOST_BOXES", "MOST_DEEP", "Box", "Tree", "_law_cell", "_law_mix", "_law_name", "_law_whole", "_law_same_row", "_law_under", "_law_deep", "_law_put", "_law_moved", "_law_missing", "_law_tried", "_law_wanted"] : List Str)
theorem run (w : World) : HandSHeadRun.RunEq R (PySem.W.view R.prog [32]) hk ob 4000 loose w := by
  intro os
  kernel_rfl
end Hd
end

section
set_option linter.all false
set_option maxRecDepth 100000
set_option maxHeartbeats 2000000
/-! AM, own rules over the heap: sorted(e, key=lambda p: p[0], reverse=True), l.count(x). -/
namespace AM
open PySem PySem.Spec PyProof.Rows L2 LamX

/-! ### data of tuples -/
mutual
def tupD : PyData → Bool
  | .none => true
  | .bool _ => true
  | .int _ => true
  | .str _ => true
  | .tuple xs => tupDs xs
  | .list _ => false
  | .dict _ => false
def tupDs : List PyData → Bool
  | [] => true
  | x :: xs => tupD x && tupDs xs
end
mutual
theorem reads_nil {h : Heap} : ∀ (d : PyData) (v : Value) (as : List Addr), tupD d = true → Reads h v d as → as = []
  | .none, _, _, _, r => by cases r; rfl
  | .bool _, _, _, _, r => by cases r; rfl
  | .int _, _, _, _, r => by cases r; rfl
  | .str _, _, _, _, r => by cases r; rfl
  | .tuple xs, _, _, h1, r => by
    cases r with
    | tuple a b c d => exact reads_nils xs _ _ (by simpa only [tupD] using h1) d
  | .list _, _, _, h1, _ => by simp [tupD] at h1
  | .dict _, _, _, h1, _ => by simp [tupD] at h1
theorem reads_nils {h : Heap} : ∀ (ds : List PyData) (vs : List Value) (as : List Addr), tupDs ds = true → ReadsAll h vs ds as → as = []
  | [], _, _, _, r => by cases r; rfl
  | d :: ds, _, _, h1, r => by
    have h2 : tupD d = true ∧ tupDs ds = true := by simpa only [tupDs, Bool.and_eq_true] using h1
    cases r with
    | cons a b =>
      rw [reads_nil d _ _ h2.1 a, reads_nils ds _ _ h2.2 b]
      rfl
end

/-! ### a lambda is made -/
/-- the table at P: as it was, or with a new code object of the name q -/
def TabUp (P : Addr) (q : Str) (H H1 : Hp) : Prop := H1 = H ∨ ∃ (ps more : Array Value) (c' : Addr), H P = some (.tbl ps) ∧ H c' = none ∧ H1 = upd (upd H P (.tbl (ps ++ more))) c' (CodeO c' q) ∧ TriplesOk (ps ++ more).toList ∧
  ∀ (pos : Pos) (cv : Value), codeAmong pos (ps ++ more).toList = some cv → codeAmong pos ps.toList = some cv ∨ cv = .ref c'
/-- a function object -/
def LamO (f : Addr) (ob : Obj) : HO := .ext fun h => h.get? f = some ob
section
variable {X : Cx} {pins : List (Addr × Obj)} {σ : L2.St} {H : Hp} {s : Shared}
theorem inv_lam {ob : Obj} {h' : Heap} {t' : Nat} (hob : ob.isFreed = false) (I : Inv X pins σ H { s with heap := h', toks := t' }) : Inv X pins σ (upd H h'.objs.size (LamO h'.objs.size ob)) { s with heap := h'.push ob, toks := t' } := by
  refine I.laid (a := h'.objs.size) (fun b u e => Heap.get?_push_of_some _ e) (Nat.le_refl _) ?_
  have e : (h'.push ob).get? h'.objs.size = some ob := Heap.get?_push_size _ hob
  exact ⟨e, ⟨_, e⟩, fun h1 h2 z st => st _ z⟩
theorem lam_own {c P : Addr} {q : Str} {params : Arguments} {body : Expr} {scope : Scope} {pos : Pos} {E : Value → Shared → Prop} {Q : Value → Shared → Prop} (I : Inv X pins σ H s) (TB : TabB X.base X.mg c P) (hcode : X.env.code = .ref c)
    (hq : X.env.qual ++ "<lambda>" = q) (hT : TabS H P q) (hdef : defaultsOf params X.env = ([], [])) (hfree : ∀ y ∈ scope.names, y.2 = .free → ∃ c, X.env.cells.lookup y.1 = some c)
    (h : ∀ (f c' : Addr) (pm ctv : Value) (H1 : Hp) (s' : Shared), Inv X pins σ (upd H1 f (LamO f (PySem.W.kla_obj "<lambda>" q params body scope (cloFrom X.env.cells scope.names []) pm c' ctv))) s' → TabUp P q H H1 → H1 f = none →
      H1 c' = some (CodeO c' q) → Q (.ref f) s') :
    wpAny (model X.prog X.w) X.A (eval (.Lambda params body scope pos) X.env) Q E s := by
  subst hq
  obtain ⟨ps, hP, ht, ha⟩ := hT
  have bP : s.heap.BuiltinsAt X.mg P := TB.bm.keeps I.bk
  have hP' : s.heap.get? P = some { cls := .none, data := .fields ps } := I.hok P _ hP
  refine PySem.W.kla_eval hdef ?_
  cases hc : codeAmong pos ps.toList with
  | some cv =>
    obtain ⟨c', e, hco⟩ := ha pos cv hc
    subst e
    refine PySem.W.kla_makeFunctionHit (mg := X.mg) (c := c) (P := P) (ps := ps) (closure_ok hfree) I.ok.glob (I.mod.glob.keeps I.bk) hcode (TB.code.keeps I.bk) hP' ht hc bP fun ctv h' tk hx hsz => ?_
    have I1 : Inv X pins σ H { s with heap := h', toks := tk } := I.kept hx
    exact h h'.objs.size c' _ ctv H _ (inv_lam rfl I1) (.inl rfl) (I1.hok.fresh (Nat.le_refl _)) hco
  | none =>
    refine PySem.W.kla_makeFunction (mg := X.mg) (c := c) (P := P) (ps := ps) (closure_ok hfree) I.ok.glob (I.mod.glob.keeps I.bk) hcode (TB.code.keeps I.bk) hP' ht hc TB.gP bP fun c' ctv h' tk hx hge hlt hrec htb => ?_
    obtain ⟨c2, oc, vs, t, e2, hoc, hd, hv⟩ := hrec
    cases e2
    have nC : H c' = none := I.hok.fresh hge
    have eL : (ps ++ #[rawInt pos.line, rawInt pos.col, .ref c']).toList = ps.toList ++ [rawInt pos.line, rawInt pos.col, .ref c'] := by simp
    have I1 := inv_table (t' := tk) I hP (fun b o hb e => hx b o hb e) htb hge ⟨oc, vs, t, hoc, hd, hv⟩
    refine h h'.objs.size c' _ ctv _ _ (inv_lam rfl I1) (.inr ⟨ps, _, c', hP, nC, rfl, by rw [eL]; exact PySem.TriplesOk_snoc _ _ _ _ ht, fun p' cv hcv => ?_⟩) (I1.hok.fresh (Nat.le_refl _)) upd_same
    rw [eL] at hcv
    exact among_app _ ht hcv
end
section
variable {X : Cx}
/-- a lambda, as a value -/
def tLamb (P : Addr) (q : Str) (ob : Addr → Value → Value → Obj) : TE := fun _ H Q => TabS H P q ∧ ∀ (f c' : Addr) (pm ctv : Value) (H1 : Hp), TabUp P q H H1 → H1 f = none → H1 c' = some (CodeO c' q) → Q (.ref f) (upd H1 f (LamO f (ob c' pm ctv)))
theorem pe_lambda {c P : Addr} {q : Str} {params : Arguments} {body : Expr} {scope : Scope} {pos : Pos} (TB : TabB X.base X.mg c P) (hcode : X.env.code = .ref c) (hq : X.env.qual ++ "<lambda>" = q) (hdef : defaultsOf params X.env = ([], []))
    (hfree : ∀ y ∈ scope.names, y.2 ≠ .free) : PE X (.Lambda params body scope pos) (tLamb P q fun c' pm ctv => PySem.W.kla_obj "<lambda>" q params body scope (cloFrom X.env.cells scope.names []) pm c' ctv) :=
  ⟨fun pins s σ H Q I h => lam_own I TB hcode hq h.1 hdef (fun y hy e => absurd e (hfree y hy)) fun f c' pm ctv H1 s' I1 tu nf hc => ⟨.ref f, _, I1, rfl, h.2 f c' pm ctv H1 tu nf hc⟩⟩
end

/-! ### lambda p: p[0], called -/
/-- one parameter, no name more -/
structure LamS1 (x : Str) (scope : Scope) : Prop where
  kind : scope.kind = .function
  co : scope.isCoroutine = false
  gen : scope.isGenerator = false
  own : ∀ y ∈ scope.names, y.2 = .local
  par : scope.names.lookup x = some .local
section
variable {prog : Program} {w : World} {A : Around} {s : Shared}
theorem lam0_call {f c' t : Addr} {q x : Str} {params : Arguments} {scope : Scope} {clos : List (Str × Addr)} {pm ctv u : Value} {p1 p2 p3 : Pos} {j : Nat} {its : List Value} (L : LamS1 x scope)
    (ho : s.heap.get? f = some (PySem.W.kla_obj "<lambda>" q params (.Subscript (.Name x p1) (.Constant (.int 0) j p2) p3) scope clos pm c' ctv)) (hcd : s.heap.CodeRec (.ref c') q) (lim : s.heap.NoLimit) (hroom : A.depth < recursionLimit)
    (hbind : ∀ v, bindArgs (PySem.W.kla_fn "<lambda>" q params (.Subscript (.Name x p1) (.Constant (.int 0) j p2) p3) scope clos pm (.ref c') ctv) ⟨[v], []⟩ = pure [(x, v)]) (ht : IsTup s.heap t its.toArray) (hu : its[0]? = some u) (hd : (x == ("__debug__" : Str)) = false) :
    wpAny (model prog w) A (call (.ref f) [.ref t]) (fun v s' => v = u ∧ ∃ h' tk, s' = { s with heap := h', toks := tk } ∧ ∀ b o, s.heap.get? b = some o → h'.get? b = some o) (fun _ _ => False) s := by
  refine wpAny_call (PySem.W.kla_callFunE hroom ho rfl L.co L.gen rfl hcd ?_)
  rw [hbind]
  refine wpAny_pure (wpAny_newFunctionEnv (fun y hy e => ?_) (fun y hy => ?_) (fun h₁ hns hsb => ⟨lim.fresh _ hsb, ?_⟩) L.kind)
  · rw [L.own y hy] at e; cases e
  · rw [List.mem_singleton.mp hy]; exact L.par
  · have kp : ∀ b o, s.heap.get? b = some o → h₁.get? b = some o := fun b o e => hsb.extBut b o (Nat.ne_of_lt (Heap.lt_size e)) (Heap.get?_push_of_some _ e)
    have ht' : IsTup h₁ t its.toArray := by
      obtain ⟨o, e, c, n, d⟩ := ht
      exact ⟨o, kp _ _ e, c, n, d⟩
    refine PySem.W.kla_codeExpr ?_
    refine Subscript_ (wpAny_Name (wpAny_loadName_local L.kind L.par hns (v := .ref t) (by simp) ?_) hd)
    refine wpAny_Constant_int ?_
    refine item_tupleL (j := 0) ht' (by decide) (by decide) ?_ hu ?_
    · cases its with
      | nil => simp at hu
      | cons a r => first | rfl | simp [seqIndex?]
    · exact ⟨rfl, h₁, _, rfl, kp⟩
end

theorem bind1 {w q : Str} {ap : Pos} {body : Expr} {scope : Scope} {clos : List (Str × Addr)} {pm cv ctv v : Value} : bindArgs (PySem.W.kla_fn "<lambda>" q ⟨[], [⟨w, none, ap⟩], none, [], [], none, []⟩ body scope clos pm cv ctv) ⟨[v], []⟩ = pure [(w, v)] := by
  unfold bindArgs
  simp only [List.map_nil, List.map_cons, List.nil_append, List.zip_cons_cons, List.zip_nil_right, List.length_cons, List.length_nil]
  first | rfl | (simp [seqItems?, List.lookup]; done) | (simp [seqItems?, List.lookup]; rfl)

/-! ### sorted by it -/
/-- items are tuples whose first things are data alike -/
structure SortKey (K : PySem.W.Frag) (H : Hp) (bs : List (V × PyData)) : Prop where
  item : ∀ b ∈ bs, ∃ (t : Addr) (k : V) (r : List V), b.1 = .ref t ∧ SqT K H t (k :: r) ∧ Dp K H k b.2 ∧ tupD b.2 = true
  alike : PySem.W.AllAlike (bs.map (·.2))
  sort : PySem.W.Sortable (bs.map (·.2))
  deep : ∀ b ∈ bs, b.2.depth ≤ 60
def rSortK (K : PySem.W.Frag) (q : Str) (ob : Addr → Value → Value → Obj) : List V → List V → Hp → VK → Prop := fun vs zs H Q => ∃ (a f c' : Addr) (bs : List (V × PyData)) (pm ctv : Value), vs = [.ref a] ∧ zs = [.ref f, .bl true] ∧ H f = some (LamO f (ob c' pm ctv)) ∧ H c' = some (CodeO c' q) ∧
  SqL K H a (bs.map (·.1)) ∧ SortKey K H bs ∧ ∀ p : Addr, H p = none → Q (.ref p) (upd H p (.lst ((bs.mergeSort (PySem.W.dataLe true (·.2))).map (·.1))))
theorem each_of : ∀ {bs : List (V × PyData)} {us : List Value}, Vals (bs.map (·.1)) us → PySem.W.EachIs (fun u (b : V × PyData) => RelV b.1 u) us bs
  | [], _, r => by cases r; exact .nil
  | b :: bs, _, r => by
    cases r with
    | cons a t => exact .cons a (each_of t)
theorem each_to : ∀ {bs : List (V × PyData)} {us : List Value}, PySem.W.EachIs (fun u (b : V × PyData) => RelV b.1 u) us bs → Vals (bs.map (·.1)) us
  | _, _, .nil => .nil
  | _, _, .cons a t => .cons a (each_to t)
section
variable {X : Cx}
theorem cr_sortK {q x : Str} {params : Arguments} {scope : Scope} {clos : List (Str × Addr)} {p1 p2 p3 : Pos} {j k : Nat} (hr : Room k X.A) (hun : X.A.units + 65 < cLine) (L : LamS1 x scope) (hd : (x == ("__debug__" : Str)) = false)
    (hbind : ∀ (c' : Addr) (pm ctv v : Value), bindArgs (PySem.W.kla_fn "<lambda>" q params (.Subscript (.Name x p1) (.Constant (.int 0) j p2) p3) scope clos pm (.ref c') ctv) ⟨[v], []⟩ = pure [(x, v)]) :
    CallRK X (.builtin "sorted") [Str.ofString "key", Str.ofString "reverse"] (rSortK X.K q fun c' pm ctv => PySem.W.kla_obj "<lambda>" q params (.Subscript (.Name x p1) (.Constant (.int 0) j p2) p3) scope clos pm c' ctv) := by
  intro pins s σ H vs zs us ws Q I r rz h
  obtain ⟨a, f, c', bs, pm, ctv, rfl, rfl, hf, hc, hs, sk, hq⟩ := h
  obtain rfl := Vals.ref1 r
  obtain ⟨w1, w2, rfl, e1, e2⟩ := vals2 rz
  obtain rfl : w1 = Value.ref f := e1
  obtain rfl : w2 = Value.bool true := e2
  obtain ⟨its, rv, hl, hz⟩ := I.list hs
  obtain ⟨hfo, _, _⟩ := I.hok f _ hf
  have hfo : s.heap.get? f = some _ := hfo
  obtain ⟨⟨oc, us, tq, hco, hdc, hvc⟩, _, _⟩ := I.hok c' _ hc
  have hz' : bs.length ≤ sizeLine := by rw [List.length_map] at hz; exact hz
  have eA : X.A.in1.in1.depth < recursionLimit := hr.depth
  refine PySem.W.sorted_key_data (R := fun u (b : V × PyData) => RelV b.1 u) (bs := bs) (b := true) (·.2) hl.isList (each_of rv) sk.alike sk.sort hz' (fun b hb => by have := sk.deep b hb; omega) (PyProof.Rows.ksk_s2 _ _ _) (fun _ => PyProof.Rows.ksk_l2 _ _ _) (fun _ => PyProof.Rows.ksk_t2 _ _ _)
    (fun v b hv hb h tk kp => ?_) fun out n h' tk kp fr ho hlen eo => ?_
  · obtain ⟨t, kk, r, e, ht, hk, htd⟩ := sk.item b hb
    rw [e] at hv
    obtain rfl : v = Value.ref t := hv
    obtain ⟨it2, rv2, tup, _⟩ := I.tuple ht
    cases rv2 with
    | cons ru rt =>
      rename_i u ur
      obtain ⟨as, hread⟩ := Dp.reads I b.2 kk u hk ru
      obtain rfl := reads_nil b.2 u as htd hread
      refine wpAny_mono (lam0_call (A := X.A.in1.in1) (s := { s with heap := h, toks := tk }) (u := u) L (kp _ _ hfo) ⟨c', oc, us, tq, rfl, kp _ _ hco, hdc, hvc⟩ (I.nolimit.keeps kp) eA (hbind c' pm ctv) (its := u :: ur) ?_ rfl hd) ?_ (fun _ _ z => z)
      · obtain ⟨o, e1, e2, n, e3⟩ := tup
        exact ⟨o, kp _ _ e1, e2, n, e3⟩
      · rintro v s' ⟨rfl, h2, tk2, rfl, kp2⟩
        exact ⟨h2, tk2, rfl, kp2, PyProof.Rows.Reads.keeps (fun b o e => kp2 b o (kp b o e)) hread⟩
  · have hp := I.hok.fresh (a := s.heap.objs.size + 1) (Nat.le_succ _)
    refine ⟨.ref (s.heap.objs.size + 1), upd H (s.heap.objs.size + 1) (.lst ((bs.mergeSort (PySem.W.dataLe true (·.2))).map (·.1))), I.laid kp (Nat.le_succ _) ⟨?_, out, n, each_to eo, ho⟩, rfl, hq _ hp⟩
    rw [List.length_map, List.length_mergeSort]
    exact hz'
end
/-! ### l.count(x), data of any depth -/
def rCntD (K : PySem.W.Frag) : V → List V → Hp → VK → Prop := fun x xs H Q => ∃ (a : Addr) (y : V) (d : PyData) (ds : List PyData), x = V.ref a ∧ xs = [y] ∧ Dp K H (V.ref a) (.list ds) ∧ Dp K H y d ∧ SeqAt.shaped (.list ds) = true ∧ SeqAt.shaped d = true ∧
  Q (.int ((ds.countP fun z => PyData.eqv z d : Nat) : Int)) H
theorem mt_countD {X : Cx} (hu : X.A.units + 65 < cLine) : MtR X "list.count" (rCntD X.K) := by
  intro pins s σ H x xs v us Q I rx rxs h
  obtain ⟨a, y, d, ds, rfl, rfl, hl, hy, sl, sd, q⟩ := h
  cases rx
  cases rxs with
  | cons ry rt =>
    rename_i uy ut
    cases rt
    obtain ⟨bs, r1⟩ := Dp.reads I d y uy hy ry
    cases hl with
    | lst hs ha =>
      obtain ⟨its, rv, pl, _⟩ := I.list hs
      obtain ⟨as, h4⟩ := Dp.readsAll I ds _ its ha rv
      have hl2 : PyData.plain (.list ds) = true := PyData.plain_of_canLay0 _ (SeqAt.canLay_of_shaped sl)
      exact SeqAt.count_list_data (vs := its.toArray) pl.isList (by simpa using h4) r1 (by simpa only [PyData.plain] using hl2) (PyData.plain_of_canLay0 _ (SeqAt.canLay_of_shaped sd)) (room_in_shaped sd hu) ⟨.int ((ds.countP fun z => PyData.eqv z d : Nat) : Int), H, I.tok _, ⟨_, rfl⟩, q⟩
theorem sort_map {α β : Type} (f : α × PyData → β × PyData) (hf : ∀ a, (f a).2 = a.2) (l : List (α × PyData)) : (l.map f).mergeSort (PySem.W.dataLe true (·.2)) = (l.mergeSort (PySem.W.dataLe true (·.2))).map f := by
  refine (List.map_mergeSort (r := PySem.W.dataLe true (·.2)) (s := PySem.W.dataLe true (·.2)) (f := f) fun a _ b _ => ?_).symm
  unfold PySem.W.dataLe PySem.W.sortLe
  simp only [hf]
end AM
end

section
set_option linter.all false
set_option maxRecDepth 100000
/-! AM, first part: values, store, syntax, weakest preconditions. -/
namespace AM
open PySem L2 PyProof.Rows

/-- a function made within a def: its place, its code's, its key, its qualified name, what its cells hold -/
structure Clo where
  f : PySem.Addr
  c : PySem.Addr
  id : Str
  q : Str
  xs : List V
inductive Va where
  | non | bl (b : Bool) | int (i : Int) | str (x : Str)
  | tup (xs : List Va) | lst (xs : List Va) | dct (kvs : List (Key × Va)) | loc (n : Nat) | scr (ns : List Int) | exc (a : PySem.Addr) | fnv (z : Clo) (ws : List Va)

inductive Ob where
  | lst (xs : List Va) | dct (kvs : List (Key × Va)) | ins (C : Str) (fs : List (Str × Va)) | dead | lok (kvs : List (Key × Va)) | tab (q : Str)

abbrev Sto := List Ob
abbrev Env := List (Option Va)
abbrev PV := Va → Sto → Prop
abbrev PX := Str → Sto → Prop
abbrev PL := List Va → Sto → Prop

inductive Bop where | add | sub | mul | fdiv | mod | pow
  deriving DecidableEq
inductive Cop where | eq | ne | lt | le | gt | ge | isin | notin | isb | nisb
  deriving DecidableEq
inductive Ty where | int | bool | str | tuple | list | dict
  deriving DecidableEq
mutual
inductive Tg where | name (i : Nat) | tup (ts : Tgs)
inductive Tgs where | nil | cons (t : Tg) (ts : Tgs)
end
inductive Bf where | list | tuple | sum | max1 | min1 | max2 | min2 | sorted | ord | str | int | all | any | dict | maxT
  deriving DecidableEq
inductive Mf where | append | pop | extend | insert | join | index | clear | remove | upper | partition | split | endswith | find | count
  deriving DecidableEq

mutual
inductive Ex where
  | var (i : Nat) | int (i : Int) | bl (b : Bool) | non | str (x : Str) | glob (x : Str)
  | tup (es : Exs) | lst (es : Exs)
  | bin (op : Bop) (a b : Ex) | neg (a : Ex)
  | cmp (op : Cop) (a b : Ex) | isN (a : Ex) | notN (a : Ex)
  | chain (op op' : Cop) (a b c : Ex) | chain3 (op op' op'' : Cop) (a b c d : Ex)
  | tst (t : Te)
  | ite (t : Te) (a b : Ex)
  | call (f : Str) (es : Exs)
  | len (a : Ex) | abs (a : Ex) | isi (a : Ex) (t : Ty)
  | sub (a i : Ex)
  | slice (a : Ex) (lo hi : Oe)
  | blt (f : Bf) (es : Exs)
  | mth (m : Mf) (o : Ex) (es : Exs)
  | comp (own : List Nat) (elt : Ex) (tg : Tg) (it : It) (cond : Tes0)
  | fld (o : Ex) (f : Str) | mcall (o : Ex) (m : Str) (es : Exs) | make (c : Str) (es : Exs) | make0 (c : Str)
  | isc (a : Ex) (x : Str) | isE (a : Ex) (x : Str) | isEt (a : Ex) (xs : List Str) | lrev (a : Ex) | maxd (a d : Ex) | sortk (a : Ex) (q : Str)
  | dsp (es : Exs) | get1 (o k : Ex) | get2 (o k d : Ex) | gget (x : Str) (k d : Ex) | dpop1 (o k : Ex) | dpop2 (o k d : Ex) | lck (e : Ex)
  | evens (a : Ex) | callv (i : Nat) (es : Exs) | callc (f : Str) (es : Exs) (id q : Str) (js : List Nat) | mcallc (o : Ex) (m : Str) (es : Exs) (id q : Str) (js : List Nat)
inductive Oe where
  | none | some (e : Ex)
inductive It where
  | seq (e : Ex) | range1 (a : Ex) | range2 (a b : Ex) | enum (e : Ex) | zip (a b : Ex) | rev (e : Ex) | revr (a : Ex) | rangeD (a b : Ex) | keys (e : Ex) | items (e : Ex)
inductive Tes0 where
  | none | some (t : Te)
inductive Te where
  | val (e : Ex) | not (t : Te) | and (ts : Tes) | or (ts : Tes)
inductive Tes where
  | one (t : Te) | cons (t : Te) (ts : Tes)
inductive Exs where
  | nil | cons (e : Ex) (es : Exs)
end

mutual
inductive Sm where
  | set (i : Nat) (e : Ex) | ret (e : Ex) | retN | pass | brk | cont
  | drop (e : Ex)
  | ite (t : Te) (a b : Sms)
  | whil (t : Te) (b : Sms)
  | raise (x : Str)
  | asg (tg : Tg) (e : Ex)
  | setSub (o i e : Ex)
  | aug (i : Nat) (op : Bop) (e : Ex)
  | setC (i : Nat) (own : List Nat) (elt : Ex) (tg : Tg) (it : It) (cond : Tes0)
  | for_ (tg : Tg) (it : It) (b : Sms)
  | setFld (o : Ex) (f : Str) (e : Ex) | augFld (o : Ex) (f : Str) (op : Bop) (e : Ex) | lck (s : Sm) | try_ (b : Sms) (x : Str) (o : Option Nat) (su : Sms)
inductive Sms where
  | nil | cons (s : Sm) (ss : Sms)
end

structure Fn where
  ps : List Str
  N : List Str
  body : Sms

def gt : Env → Nat → Option Va
  | [], _ => none
  | o :: _, 0 => o
  | _ :: r, i + 1 => gt r i
theorem gt_eq : ∀ (l : Env) (i : Nat) (v : Va), gt l i = some v ↔ l[i]? = some (some v)
  | [], i, v => by simp [gt]
  | o :: r, 0, v => by simp [gt]
  | o :: r, i + 1, v => by simp [gt, gt_eq r i v]

/-- a list's items: a frozen one, or one of the store -/
def LV (S : Sto) (v : Va) (xs : List Va) : Prop := v = .lst xs ∨ ∃ k, v = .loc k ∧ S[k]? = some (.lst xs)

/-- flat data -/
def flat : Va → Bool
  | .non => true | .bl _ => true | .int _ => true | .str _ => true
  | .tup _ => false | .lst _ => false | .dct _ => false | .loc _ => false | .scr _ => false | .exc _ => false | .fnv _ _ => false
def scal : Va → Va → Bool
  | .int _, .int _ => true | .bl _, .bl _ => true | .str _, .str _ => true | .non, .non => true
  | _, _ => false
def eqF : Va → Va → Bool
  | .int i, .int j => decide (i = j) | .bl a, .bl b => decide (a = b) | .str a, .str b => decide (a = b) | .non, .non => true
  | _, _ => false

/-- == of flat things, a truth being a number too -/
def eqW : Va → Va → Bool
  | .non, .non => true
  | .bl a, .bl b => a == b
  | .bl a, .int b => (if a then 1 else 0) == b
  | .int a, .bl b => a == (if b then 1 else 0)
  | .int a, .int b => a == b
  | .str a, .str b => a == b
  | _, _ => false
mutual
/-- data at any depth, read through the store -/
inductive DV (S : Sto) : Va → PyData → Prop
  | non : DV S .non .none
  | bl (b : Bool) : DV S (.bl b) (.bool b)
  | int (i : Int) : DV S (.int i) (.int i)
  | str (x : Str) : DV S (.str x) (.str x)
  | tup {xs : List Va} {ds : List PyData} : DVs S xs ds → DV S (.tup xs) (.tuple ds)
  | lst {xs : List Va} {ds : List PyData} : DVs S xs ds → DV S (.lst xs) (.list ds)
  | loc {k : Nat} {xs : List Va} {ds : List PyData} : S[k]? = some (.lst xs) → DVs S xs ds → DV S (.loc k) (.list ds)
inductive DVs (S : Sto) : List Va → List PyData → Prop
  | nil : DVs S [] []
  | cons {v : Va} {vs : List Va} {d : PyData} {ds : List PyData} : DV S v d → DVs S vs ds → DVs S (v :: vs) (d :: ds)
end

/-! ### dicts, objects -/
def keyV : Va → Option Key
  | .int i => some (.inl i)
  | .str x => some (.inr x)
  | _ => none
def dget (kvs : List (Key × Va)) (k : Key) : Option Va := (kvs.find? fun kv => decide (kv.1 = k)).map (·.2)
def dput (kvs : List (Key × Va)) (k : Key) (v : Va) : List (Key × Va) :=
  if (kvs.any fun kv => decide (kv.1 = k)) = true then kvs.map (fun kv => if kv.1 = k then (kv.1, v) else kv) else kvs ++ [(k, v)]
def ddrop (kvs : List (Key × Va)) (k : Key) : List (Key × Va) := kvs.filter fun kv => decide (kv.1 ≠ k)
def mergeA (kvs more : List (Key × Va)) : List (Key × Va) := more.foldl (fun acc kv => dput acc kv.1 kv.2) kvs
def pairsV : List Va → Option (List (Key × Va))
  | [] => some []
  | k :: v :: r => match keyV k, pairsV r with
    | some k, some r => some ((k, v) :: r)
    | _, _ => none
  | _ => none
def putFA (f : Str) (v : Va) : List (Str × Va) → List (Str × Va)
  | [] => [(f, v)]
  | (g, x) :: r => if g = f then (g, v) :: r else (g, x) :: putFA f v r
/-- a dict's pairs: a frozen one, or one of the store -/
def LD (S : Sto) (v : Va) (kvs : List (Key × Va)) : Prop := v = .dct kvs ∨ ∃ k, v = .loc k ∧ S[k]? = some (.dct kvs)

/-- two dicts alike: as many pairs, and each of the one has its like in the other -/
def DEq (S : Sto) (x y : Va) : Prop := ∃ ks ls, LD S x ks ∧ LD S y ls ∧ ks.length = ls.length ∧ ∀ p ∈ ks, ∃ z, dget ls p.1 = some z ∧ ∃ d, DV S p.2 d ∧ DV S z d ∧ SeqAt.shaped d = true ∧ PyData.eqv d d = true
/-- a product of less than some 134 million bits -/
def CMulA (i j : Int) : Prop := i.natAbs.log2 + j.natAbs.log2 < 134000000
def CDivA (j : Int) : Prop := j ≠ 0 ∧ j.natAbs.log2 < 9000

/-- two lists' items put together in a new list -/
def wCat (x y : Va) (S : Sto) (P : PV) : Prop := ∃ xs, LV S x xs ∧ ∃ ys, LV S y ys ∧ xs.length + ys.length ≤ 1000000 ∧ P (.loc S.length) (S ++ [.lst (xs ++ ys)])
def wBin : Bop → Va → Va → Sto → PV → Prop
  | .add, .int i, .int j, S, P => P (.int (i + j)) S
  | .add, .str i, .str j, S, P => i.length + j.length ≤ sizeLine ∧ P (.str (i ++ j)) S
  | .add, .lst xs, y, S, P => wCat (.lst xs) y S P
  | .add, .loc k, y, S, P => wCat (.loc k) y S P
  | .add, .tup xs, .tup ys, S, P => xs.length + ys.length ≤ 1000000 ∧ P (.tup (xs ++ ys)) S
  | .sub, .int i, .int j, S, P => P (.int (i - j)) S
  | .mul, .int i, .int j, S, P => CMulA i j ∧ P (.int (i * j)) S
  | .mul, .loc k, .int i, S, P => ∃ xs, S[k]? = some (.lst xs) ∧ -(2 ^ 62) ≤ i ∧ i < 2 ^ 62 ∧ xs.length * i.toNat ≤ 1000000 ∧ P (.loc S.length) (S ++ [.lst (List.replicate i.toNat xs).flatten])
  | .mul, .str z, .int i, S, P => 2 ≤ i ∧ i < 2 ^ 31 ∧ 0 < z.length ∧ z.length * i.toNat ≤ 1000000 ∧ P (.str ⟨(List.replicate i.toNat z.cps).foldl (· ++ ·) #[]⟩) S
  | .fdiv, .int i, .int j, S, P => CDivA j ∧ P (.int (i.fdiv j)) S
  | .mod, .int i, .int j, S, P => j ≠ 0 ∧ P (.int (i.fmod j)) S
  | .pow, .int i, .int j, S, P => CPow i j ∧ P (.int (i ^ j.toNat)) S
  | _, _, _, _, _ => False

def wNeg : Va → Sto → PV → Prop
  | .int i, S, P => P (.int (-i)) S
  | _, _, _ => False

/-- x in the object o that stands at k -/
def inO (S : Sto) (neg : Bool) (x : Va) (k : Nat) : Ob → PV → Prop
  | .lst _, P => ∃ d ds, DV S x d ∧ DV S (.loc k) (.list ds) ∧ SeqAt.shaped d = true ∧ SeqAt.shaped (.list ds) = true ∧ P (.bl (if neg = true then !ds.any fun z => PyData.eqv z d else ds.any fun z => PyData.eqv z d)) S
  | .dct kvs, P => ∃ kk, keyV x = some kk ∧ P (.bl (if neg = true then !(dget kvs kk).isSome else (dget kvs kk).isSome)) S
  | .lok kvs, P => ∃ kk, keyV x = some kk ∧ P (.bl (if neg = true then !(dget kvs kk).isSome else (dget kvs kk).isSome)) S
  | _, _ => False
def wCmp : Cop → Va → Va → Sto → PV → Prop
  | .lt, .int i, .int j, S, P => P (.bl (decide (i < j))) S
  | .le, .int i, .int j, S, P => P (.bl (decide (i ≤ j))) S
  | .gt, .int i, .int j, S, P => P (.bl (decide (j < i))) S
  | .ge, .int i, .int j, S, P => P (.bl (decide (j ≤ i))) S
  | .lt, .tup xs, .tup ys, S, P => ∃ d e, DV S (.tup xs) d ∧ DV S (.tup ys) e ∧ PySem.W.alike d e = true ∧ d.depth ≤ 60 ∧ P (.bl (PySem.W.dataLt d e)) S
  | .gt, .tup xs, .tup ys, S, P => ∃ d e, DV S (.tup xs) d ∧ DV S (.tup ys) e ∧ PySem.W.alike d e = true ∧ d.depth ≤ 60 ∧ P (.bl (PySem.W.dataLt e d)) S
  | .isb, .bl a, .bl b, S, P => P (.bl (decide (a = b))) S
  | .nisb, .bl a, .bl b, S, P => P (.bl (!decide (a = b))) S
  | .isin, .str x, .str y, S, P => x.length = 1 ∧ P (.bl (decide (x.cps.getD 0 0 ∈ y.cps.toList))) S
  | .notin, .str x, .str y, S, P => x.length = 1 ∧ P (.bl (!decide (x.cps.getD 0 0 ∈ y.cps.toList))) S
  | .isin, x, .tup xs, S, P => flat x = true ∧ xs.all flat = true ∧ P (.bl (xs.any fun z => eqW z x)) S
  | .isin, x, .dct kvs, S, P => ∃ kk, keyV x = some kk ∧ P (.bl (dget kvs kk).isSome) S
  | .notin, x, .dct kvs, S, P => ∃ kk, keyV x = some kk ∧ P (.bl (!(dget kvs kk).isSome)) S
  | .isin, x, .loc k, S, P => ∃ o, S[k]? = some o ∧ inO S false x k o P
  | .notin, x, .loc k, S, P => ∃ o, S[k]? = some o ∧ inO S true x k o P
  | .notin, x, .tup xs, S, P => flat x = true ∧ xs.all flat = true ∧ P (.bl (!xs.any fun z => eqW z x)) S
  | .isin, x, y, S, P => ∃ d ds, DV S x d ∧ DV S y (.list ds) ∧ SeqAt.shaped d = true ∧ SeqAt.shaped (.list ds) = true ∧ P (.bl (ds.any fun z => PyData.eqv z d)) S
  | .notin, x, y, S, P => ∃ d ds, DV S x d ∧ DV S y (.list ds) ∧ SeqAt.shaped d = true ∧ SeqAt.shaped (.list ds) = true ∧ P (.bl (!ds.any fun z => PyData.eqv z d)) S
  | .eq, x, y, S, P => ((scal x y = true ∧ P (.bl (eqF x y)) S) ∨ (DEq S x y ∧ P (.bl true) S)) ∨ ∃ d e, DV S x d ∧ DV S y e ∧ SeqAt.shaped d = true ∧ SeqAt.shaped e = true ∧ P (.bl (PyData.eqv d e)) S
  | .ne, x, y, S, P => ((scal x y = true ∧ P (.bl (!eqF x y)) S) ∨ (DEq S x y ∧ P (.bl false) S)) ∨ ∃ d e, DV S x d ∧ DV S y e ∧ SeqAt.shaped d = true ∧ SeqAt.shaped e = true ∧ P (.bl (!PyData.eqv d e)) S
  | _, _, _, _, _ => False

def isNon : Va → Bool
  | .non => true | _ => false

def lenO : Ob → Sto → PV → Prop
  | .lst xs, S, P => P (.int xs.length) S
  | .dct kvs, S, P => P (.int kvs.length) S
  | .lok kvs, S, P => P (.int kvs.length) S
  | _, _, _ => False
def wLen : Va → Sto → PV → Prop
  | .tup xs, S, P => P (.int xs.length) S
  | .lst xs, S, P => P (.int xs.length) S
  | .loc k, S, P => ∃ o, S[k]? = some o ∧ lenO o S P
  | .dct kvs, S, P => P (.int kvs.length) S
  | .str x, S, P => x.length ≤ sizeLine ∧ P (.int x.length) S
  | .scr ns, S, P => P (.int ns.length) S
  | _, _, _ => False

def wAbs : Va → Sto → PV → Prop
  | .int i, S, P => P (.int (if i < 0 then -i else i)) S
  | _, _, _ => False

def tyIs (S : Sto) : Va → Ty → Option Bool
  | .non, _ => some false
  | .bl _, t => some (t == .bool || t == .int)
  | .int _, t => some (t == .int)
  | .str _, t => some (t == .str)
  | .tup _, t => some (t == .tuple)
  | .lst _, t => some (t == .list)
  | .dct _, t => some (t == .dict)
  | .scr _, t => some (t == .list)
  | .exc _, _ => none
  | .fnv _ _, _ => none
  | .loc k, t => match S[k]? with
    | some (.lst _) => some (t == .list)
    | some (.dct _) => some (t == .dict)
    | _ => none

def subO : Ob → Va → Sto → PV → Prop
  | .lst xs, .int i, S, P => ∃ v, L2.atI xs i = some v ∧ P v S
  | .dct kvs, y, S, P => ∃ kk, keyV y = some kk ∧ ∃ v, dget kvs kk = some v ∧ P v S
  | .lok kvs, y, S, P => ∃ kk, keyV y = some kk ∧ ∃ v, dget kvs kk = some v ∧ P v S
  | _, _, _, _ => False
/-- o[i], by a place from the front or the back; by a key -/
def wSub : Va → Va → Sto → PV → Prop
  | .tup xs, .int i, S, P => ∃ v, L2.atI xs i = some v ∧ P v S
  | .lst xs, .int i, S, P => ∃ v, L2.atI xs i = some v ∧ P v S
  | .loc k, y, S, P => ∃ o, S[k]? = some o ∧ subO o y S P
  | .dct kvs, y, S, P => ∃ kk, keyV y = some kk ∧ ∃ v, dget kvs kk = some v ∧ P v S
  | .scr ns, .int i, S, P => ∃ n, L2.atI ns i = some n ∧ P (.int n) S
  | .str z, .int i, S, P => ∃ c, z.length ≤ sizeLine ∧ L2.atI z.cps.toList i = some c ∧ P (.str ⟨#[c]⟩) S
  | _, _, _, _ => False

/-- a value's truth -/
def tru (S : Sto) : Va → Option Bool
  | .non => some false
  | .bl b => some b
  | .int i => some (i != 0)
  | .lst xs => some (!xs.isEmpty)
  | .tup xs => some (!xs.isEmpty)
  | .dct kvs => some (!kvs.isEmpty)
  | .loc k => match S[k]? with
    | some (.lst xs) => some (!xs.isEmpty)
    | some (.dct kvs) => some (!kvs.isEmpty)
    | _ => none
  | _ => none

/-- a slice's parts -/
def cutA {α : Type} (xs : List α) (lo hi : Option Int) : List α := (xs.drop (HT.sIx xs.length 0 lo)).take (HT.sIx xs.length xs.length hi - HT.sIx xs.length 0 lo)
def wSlice : Va → Option Int → Option Int → Sto → PV → Prop
  | .lst xs, lo, hi, S, P => P (.loc S.length) (S ++ [.lst (cutA xs lo hi)])
  | .loc k, lo, hi, S, P => ∃ xs, S[k]? = some (.lst xs) ∧ P (.loc S.length) (S ++ [.lst (cutA xs lo hi)])
  | .scr ns, lo, hi, S, P => P (.loc S.length) (S ++ [.lst ((cutA ns lo hi).map Va.int)])
  | .tup xs, lo, hi, S, P => P (.tup (cutA xs lo hi)) S
  | .str z, lo, hi, S, P => z.length ≤ sizeLine ∧ P (.str (L2.cutS z lo hi)) S
  | _, _, _, _, _ => False

def keyA : Key → Va
  | .inl i => .int i
  | .inr x => .str x
def listO : Ob → Sto → PV → Prop
  | .lst xs, S, P => P (.loc S.length) (S ++ [.lst xs])
  | .dct kvs, S, P => P (.loc S.length) (S ++ [.lst (kvs.map fun kv => keyA kv.1)])
  | _, _, _ => False
def wBlt : Bf → List Va → Sto → PV → Prop
  | .list, [.lst xs], S, P => P (.loc S.length) (S ++ [.lst xs])
  | .list, [.tup xs], S, P => P (.loc S.length) (S ++ [.lst xs])
  | .list, [.scr ns], S, P => P (.loc S.length) (S ++ [.lst (ns.map Va.int)])
  | .list, [.loc k], S, P => ∃ o, S[k]? = some o ∧ listO o S P
  | .list, [.dct kvs], S, P => P (.loc S.length) (S ++ [.lst (kvs.map fun kv => keyA kv.1)])
  | .dict, [v], S, P => ∃ kvs, LD S v kvs ∧ P (.loc S.length) (S ++ [.dct kvs])
  | .tuple, [.lst xs], S, P => P (.tup xs) S
  | .tuple, [.tup xs], S, P => P (.tup xs) S
  | .tuple, [.loc k], S, P => ∃ xs, S[k]? = some (.lst xs) ∧ P (.tup xs) S
  | .sum, [v], S, P => ∃ ns : List Int, LV S v (ns.map Va.int) ∧ P (.int ns.sum) S
  | .max1, [v], S, P => ∃ ns : List Int, LV S v (ns.map Va.int) ∧ 0 < ns.length ∧ ∀ m, m ∈ ns → (∀ y, y ∈ ns → y ≤ m) → P (.int m) S
  | .maxT, [v], S, P => ∃ xs ds, LV S v xs ∧ DVs S xs ds ∧ PySem.W.AlikeAll ds ∧ PyData.depthAll ds ≤ 60 ∧ ds ≠ [] ∧ ∀ (y : PyData) (ys : List PyData) (i : Nat) (u : Va), ds = y :: ys → xs[i]? = some u → ds[i]? = some (PySem.W.maxD y ys) → P u S
  | .min1, [v], S, P => ∃ ns : List Int, LV S v (ns.map Va.int) ∧ 0 < ns.length ∧ ∀ m, m ∈ ns → (∀ y, y ∈ ns → m ≤ y) → P (.int m) S
  | .max2, [.int i, .int j], S, P => P (.int (if j > i then j else i)) S
  | .min2, [.int i, .int j], S, P => P (.int (if j < i then j else i)) S
  | .sorted, [v], S, P => ((∃ (kvs : List (Key × Va)) (ks : List Int), LD S v kvs ∧ kvs.map (·.1) = ks.map Sum.inl ∧ ks.length < 64 ∧ ∀ ns' : List Int, ns'.Perm ks → ns'.Pairwise (· ≤ ·) → P (.loc S.length) (S ++ [.lst (ns'.map Va.int)])) ∨ ∃ ns : List Int, LV S v (ns.map Va.int) ∧ ∀ ns' : List Int, ns'.Perm ns → ns'.Pairwise (· ≤ ·) → P (.loc S.length) (S ++ [.lst (ns'.map Va.int)])) ∨
    ((∃ (kvs : List (Key × Va)) (ks : List Str), LD S v kvs ∧ kvs.map (·.1) = ks.map Sum.inr ∧ ks.length < 64 ∧ ∀ ns' : List Str, ns'.Perm ks → sortedS ns' = true → P (.loc S.length) (S ++ [.lst (ns'.map Va.str)])) ∨ ∃ ns : List Str, LV S v (ns.map Va.str) ∧ ns.length < 64 ∧ ∀ ns' : List Str, ns'.Perm ns → sortedS ns' = true → P (.loc S.length) (S ++ [.lst (ns'.map Va.str)]))
  | .ord, [.str x], S, P => x.length = 1 ∧ P (.int (x.cps.getD 0 0 : Nat)) S
  | .str, [.int i], S, P => i.natAbs.log2 < 1920 ∧ P (.str (toString i)) S
  | .int, [.bl b], S, P => P (.int (if b = true then 1 else 0)) S
  | .int, [.int i], S, P => P (.int i) S
  | .int, [.str a], S, P => ∃ n, PySem.intText? a = some n ∧ a.length ≤ 640 ∧ P (.int n) S
  | .all, [v], S, P => ∃ bs : List Bool, LV S v (bs.map Va.bl) ∧ P (.bl (bs.all id)) S
  | .any, [v], S, P => ∃ bs : List Bool, LV S v (bs.map Va.bl) ∧ P (.bl (bs.any id)) S
  | _, _, _, _ => False

/-- what a method's own thing must be, ahead of the rest -/
def mOk (S : Sto) : Mf → Va → Prop
  | .join, v => ∃ a, v = .str a
  | .upper, v => ∃ a, v = .str a
  | .partition, v => ∃ a, v = .str a
  | .split, v => ∃ a, v = .str a
  | .endswith, v => ∃ a, v = .str a
  | .find, v => ∃ a, v = .str a
  | _, v => ∃ xs, LV S v xs
def wMth : Mf → Va → List Va → Sto → PV → Prop
  | .append, .loc k, [y], S, P => ∃ xs, S[k]? = some (.lst xs) ∧ xs.length < 1000000 ∧ P .non (S.set k (.lst (xs ++ [y])))
  | .pop, .loc k, [], S, P => ∃ xs, S[k]? = some (.lst xs) ∧ ∃ y, xs[xs.length - 1]? = some y ∧ P y (S.set k (.lst xs.dropLast))
  | .extend, .loc k, [z], S, P => ∃ xs, S[k]? = some (.lst xs) ∧ ∃ zs, LV S z zs ∧ xs.length + zs.length ≤ 1000000 ∧ P .non (S.set k (.lst (xs ++ zs)))
  | .insert, .loc k, [.int i, y], S, P => ∃ xs, S[k]? = some (.lst xs) ∧ xs.length < 1000000 ∧ 0 ≤ i ∧ i < 2 ^ 63 ∧ P .non (S.set k (.lst (xs.take i.toNat ++ [y] ++ xs.drop i.toNat)))
  | .join, .str a, [z], S, P => ∃ ys : List Str, (z = .tup (ys.map Va.str) ∨ LV S z (ys.map Va.str)) ∧ (ys.map PySem.Str.length).sum + ys.length * a.length ≤ 16777216 ∧ P (.str (Txt.join a ys)) S
  | .index, o, [y], S, P => ∃ d ds j z, DV S o (.list ds) ∧ DV S y d ∧ SeqAt.shaped (.list ds) = true ∧ SeqAt.shaped d = true ∧ ds[j]? = some z ∧ PyData.eqv z d = true ∧ (∀ (m : Nat) (z' : PyData), m < j → ds[m]? = some z' → PyData.eqv z' d = false) ∧ P (.int (j : Nat)) S
  | .count, o, [y], S, P => ∃ d ds, DV S o (.list ds) ∧ DV S y d ∧ SeqAt.shaped (.list ds) = true ∧ SeqAt.shaped d = true ∧ P (.int ((ds.countP fun z => PyData.eqv z d : Nat) : Int)) S
  | .upper, .str a, [], S, P => a.length ≤ 5592405 ∧ P (.str (Txt.upper a)) S
  | .partition, .str a, [.str b], S, P => (b.length == 0) = false ∧ a.length ≤ sizeLine ∧ P (.tup [.str (Txt.partition a b).1, .str (Txt.partition a b).2.1, .str (Txt.partition a b).2.2]) S
  | .split, .str a, [.str b], S, P => (b.length == 0) = false ∧ a.length + 2 ≤ sizeLine ∧ P (.loc S.length) (S ++ [.lst ((Txt.split a b).map Va.str)])
  | .endswith, .str a, [.str b], S, P => P (.bl (Txt.endswith a b)) S
  | .find, .str a, [.str b], S, P => P (.int (Txt.find a b)) S
  | .clear, .loc k, [], S, P => ∃ xs, S[k]? = some (.lst xs) ∧ P .non (S.set k (.lst []))
  | .remove, .loc k, [.int x], S, P => ∃ (ns : List Int) (j : Nat), S[k]? = some (.lst (ns.map Va.int)) ∧ ns[j]? = some x ∧ (∀ m : Nat, m < j → ns[m]? ≠ some x) ∧ P .non (S.set k (.lst ((ns.eraseIdx j).map Va.int)))
  | _, _, _, _, _ => False

/-- what a for, a comprehension walks: its things, what must stand at each turn -/
abbrev PI_ := List Va → (Sto → Prop) → Sto → Prop
def wSeq : Va → Sto → PI_ → Prop
  | .lst xs, S, P => P xs (fun _ => True) S
  | .tup xs, S, P => P xs (fun _ => True) S
  | .scr ns, S, P => P (ns.map Va.int) (fun _ => True) S
  | .str z, S, P => P (z.cps.toList.map fun c => Va.str ⟨#[c]⟩) (fun _ => True) S
  | .loc k, S, P => ∃ xs, S[k]? = some (.lst xs) ∧ P xs (fun S' => S'[k]? = some (.lst xs)) S
  | _, _, _ => False
/-- a list alone -/
def wLst : Va → Sto → PI_ → Prop
  | .lst xs, S, P => P xs (fun _ => True) S
  | .scr ns, S, P => P (ns.map Va.int) (fun _ => True) S
  | .loc k, S, P => ∃ xs, S[k]? = some (.lst xs) ∧ P xs (fun S' => S'[k]? = some (.lst xs)) S
  | _, _, _ => False
def wEn : Va → Sto → PI_ → Prop
  | .tup xs, S, P => P xs (fun _ => True) S
  | v, S, P => wLst v S P
def enumV : Nat → List Va → List Va
  | _, [] => []
  | n, x :: xs => .tup [.int (n : Nat), x] :: enumV (n + 1) xs
def zipV : List Va → List Va → List Va
  | x :: xs, y :: ys => .tup [x, y] :: zipV xs ys
  | _, _ => []
def rangeDV (lo : Int) (n : Nat) : List Va := (List.range n).map fun (i : Nat) => Va.int (lo - i)
def rangeV (lo : Int) (n : Nat) : List Va := (List.range n).map fun (i : Nat) => Va.int (lo + i)
/-- the items that a target takes apart -/
def partsOf (S : Sto) : Va → Option (List Va)
  | .tup xs => some xs
  | .lst xs => some xs
  | .loc k => match S[k]? with
    | some (.lst xs) => some xs
    | _ => none
  | _ => none
mutual
def bindT (S : Sto) : Tg → Va → Env → Option Env
  | .name i, v, Γ => some (Γ.set i (some v))
  | .tup ts, v, Γ => match partsOf S v with
    | some xs => bindTs S ts xs Γ
    | none => none
def bindTs (S : Sto) : Tgs → List Va → Env → Option Env
  | .nil, [], Γ => some Γ
  | .cons t ts, x :: xs, Γ => match bindT S t x Γ with
    | some Γ1 => bindTs S ts xs Γ1
    | none => none
  | _, _, _ => none
end
def wipeA (Γ : Env) : List Nat → Env
  | [] => Γ
  | v :: vs => (wipeA Γ vs).set v none
/-- a comprehension's turns: d the place of the list that grows -/
def cpL (bind : Va → Sto → Option Env) (t : Env → Sto → (Bool → Sto → Prop) → Prop) (e : Env → Sto → PV → Prop) (G : Sto → Prop) (d : Nat) (P : PV) : List Va → Sto → Prop
  | [], S => P (.loc d) S
  | x :: xs, S => ∃ Γ1, bind x S = some Γ1 ∧ t Γ1 S fun b S2 => if b = true then e Γ1 S2 fun v S3 => ∃ acc, S3[d]? = some (.lst acc) ∧ acc.length < 1000000 ∧ G (S3.set d (.lst (acc ++ [v]))) ∧ cpL bind t e G d P xs (S3.set d (.lst (acc ++ [v])))
      else G S2 ∧ cpL bind t e G d P xs S2
/-- every second one, from the first on -/
def evensL {α : Type} : List α → List α
  | [] => []
  | [x] => [x]
  | x :: _ :: r => x :: evensL r
structure Orc where
  run : Str → List Va → Sto → PV → PX → Prop
  meth : Str → Str → Option Str
  noat : Str → Str → Bool
  init : Str → Option (Option Str)
  glob : Str → Option Va
  isa : Str → Str → Option Bool
  gdct : Str → Option (List (Str × Option Va))
  xk : Str → Str → Option Bool
  cur : Option (PySem.Addr × Str)
  fns : List Clo
  runC : Clo → Str → List Va → Sto → PV → PX → Prop
/-- a lambdas' table stands in the store -/
def hasTab (S : Sto) (q : Str) : Prop := ∃ i : Nat, S[i]? = some (Ob.tab q)
/-- what a function made here captures -/
def capsA (Γ : Env) : List Nat → Option (List Va)
  | [] => some []
  | i :: r => match gt Γ i, capsA Γ r with
    | some v, some vs => some (v :: vs)
    | _, _ => none
/-- whether an exception is one of some classes -/
def xkAny (C : Orc) (c : Str) : List Str → Option Bool
  | [] => some false
  | x :: r => match C.xk c x, xkAny C c r with
    | some b, some d => some (b || d)
    | _, _ => none
/-- an object's field -/
def fldO (C : Orc) (f : Str) : Ob → Option Va
  | .ins c fs => if C.noat c f = true then fs.lookup f else none
  | _ => none
def clsOf : Ob → Str
  | .ins c _ => c
  | _ => ""
def putFO (C : Orc) (f : Str) (v : Va) : Ob → Option Ob
  | .ins c fs => if C.noat c f = true ∧ fs.length < 1000 then some (.ins c (putFA f v fs)) else none
  | _ => none
/-- whether an object is one of an own class -/
def clsIs (C : Orc) (x : Str) : Ob → Option Bool
  | .ins c _ => C.isa c x
  | _ => none
/-- the def behind an object's method -/
def mkey (C : Orc) (m : Str) : Ob → Option Str
  | .ins c fs => if fs.lookup m = none then C.meth c m else none
  | _ => none
/-- what o[i] = v makes of an object -/
def putO : Ob → Va → Va → Option Ob
  | .lst xs, .int j, v => (L2.ixN xs.length j).map fun n => .lst (xs.set n v)
  | .dct kvs, y, v => match keyV y with
    | some kk => if kvs.length < 1000000 then some (.dct (dput kvs kk v)) else none
    | none => none
  | _, _, _ => none
def isD (S : Sto) (v : Va) : Prop := ∃ kvs, LD S v kvs

mutual
def W (C : Orc) : Ex → Env → Sto → PV → PX → Prop
  | .var i, Γ, S, P, _ => ∃ v, gt Γ i = some v ∧ P v S
  | .int i, _, S, P, _ => P (.int i) S
  | .bl b, _, S, P, _ => P (.bl b) S
  | .non, _, S, P, _ => P .non S
  | .str x, _, S, P, _ => P (.str x) S
  | .glob x, _, S, P, _ => ∃ v, C.glob x = some v ∧ P v S
  | .tup es, Γ, S, P, E => WL C es Γ S (fun vs S1 => vs.length ≤ 1000 ∧ P (.tup vs) S1) E
  | .lst es, Γ, S, P, E => WL C es Γ S (fun vs S1 => vs.length ≤ 1000 ∧ P (.loc S1.length) (S1 ++ [.lst vs])) E
  | .bin op a b, Γ, S, P, E => W C a Γ S (fun x S1 => W C b Γ S1 (fun y S2 => wBin op x y S2 P) E) E
  | .neg a, Γ, S, P, E => W C a Γ S (fun x S1 => wNeg x S1 P) E
  | .cmp op a b, Γ, S, P, E => W C a Γ S (fun x S1 => W C b Γ S1 (fun y S2 => wCmp op x y S2 P) E) E
  | .isN a, Γ, S, P, E => W C a Γ S (fun x S1 => P (.bl (isNon x)) S1) E
  | .notN a, Γ, S, P, E => W C a Γ S (fun x S1 => P (.bl (!isNon x)) S1) E
  | .maxd a d, Γ, S, P, E => W C a Γ S (fun x S1 => W C d Γ S1 (fun z S2 => ∃ xs ds, LV S2 x xs ∧ DVs S2 xs ds ∧ PySem.W.AlikeAll ds ∧ PyData.depthAll ds ≤ 60 ∧ (ds = [] → P z S2) ∧ ∀ (y : PyData) (ys : List PyData) (i : Nat) (v : Va), ds = y :: ys → xs[i]? = some v → ds[i]? = some (PySem.W.maxD y ys) → P v S2) E) E
  | .sortk a q, Γ, S, P, E => W C a Γ S (fun x S1 => ∃ (i : Nat) (bs : List (Va × PyData)), S1[i]? = some (.tab q) ∧ LV S1 x (bs.map (·.1)) ∧ (∀ b ∈ bs, ∃ k r, b.1 = .tup (k :: r) ∧ DV S1 k b.2 ∧ tupD b.2 = true) ∧ PySem.W.AllAlike (bs.map (·.2)) ∧ PySem.W.Sortable (bs.map (·.2)) ∧ (∀ b ∈ bs, b.2.depth ≤ 60) ∧ P (.loc S1.length) (S1 ++ [.lst ((bs.mergeSort (PySem.W.dataLe true (·.2))).map (·.1))])) E
  | .lrev a, Γ, S, P, E => W C a Γ S (fun x S1 => ∃ xs, (LV S1 x xs ∨ x = .tup xs) ∧ P (.loc S1.length) (S1 ++ [.lst xs.reverse])) E
  | .chain3 op op' op'' a b c d, Γ, S, P, E => W C a Γ S (fun x S1 => W C b Γ S1 (fun y S2 => wCmp op x y S2 (fun z S3 => ∃ k, z = .bl k ∧ if k = true then W C c Γ S3 (fun u S4 => wCmp op' y u S4 (fun z S5 => ∃ k, z = .bl k ∧ if k = true then W C d Γ S5 (fun v S6 => wCmp op'' u v S6 P) E else P (.bl false) S5)) E else P (.bl false) S3)) E) E
  | .chain op op' a b c, Γ, S, P, E => W C a Γ S (fun x S1 => W C b Γ S1 (fun y S2 => wCmp op x y S2 (fun z S3 => ∃ k, z = .bl k ∧ if k = true then W C c Γ S3 (fun u S4 => wCmp op' y u S4 P) E else P (.bl false) S3)) E) E
  | .tst t, Γ, S, P, E => WB C t Γ S P E
  | .ite t a b, Γ, S, P, E => WT C t Γ S (fun k S1 => if k = true then W C a Γ S1 P E else W C b Γ S1 P E) E
  | .call f es, Γ, S, P, E => WL C es Γ S (fun vs S1 => C.run f vs S1 P E) E
  | .len a, Γ, S, P, E => W C a Γ S (fun x S1 => wLen x S1 P) E
  | .abs a, Γ, S, P, E => W C a Γ S (fun x S1 => wAbs x S1 P) E
  | .isi a t, Γ, S, P, E => W C a Γ S (fun x S1 => ∃ b, tyIs S1 x t = some b ∧ P (.bl b) S1) E
  | .sub a i, Γ, S, P, E => W C a Γ S (fun x S1 => W C i Γ S1 (fun y S2 => wSub x y S2 P) E) E
  | .slice a lo hi, Γ, S, P, E => W C a Γ S (fun x S1 => WOe C lo Γ S1 (fun l S2 => WOe C hi Γ S2 (fun h S3 => wSlice x l h S3 P) E) E) E
  | .blt f es, Γ, S, P, E => WL C es Γ S (fun vs S1 => wBlt f vs S1 P) E
  | .mth m o es, Γ, S, P, E => W C o Γ S (fun x S1 => mOk S1 m x ∧ WL C es Γ S1 (fun vs S2 => wMth m x vs S2 P) E) E
  | .comp own elt tg it cond, Γ, S, P, E => WI C it Γ S (fun xs G S1 => G (S1 ++ [.lst []]) ∧ cpL (fun x S => bindT S tg x (wipeA Γ own)) (fun Γ S Q => WT0 C cond Γ S Q) (fun Γ S Q => W C elt Γ S Q (fun _ _ => False)) G S1.length P xs (S1 ++ [.lst []])) E
  | .fld o f, Γ, S, P, E => W C o Γ S (fun x S1 => ∃ k, x = .loc k ∧ ∃ ob, S1[k]? = some ob ∧ ∃ v, fldO C f ob = some v ∧ P v S1) E
  | .mcall o m es, Γ, S, P, E => W C o Γ S (fun x S1 => ∃ k, x = .loc k ∧ ∃ ob, S1[k]? = some ob ∧ ∃ key, mkey C m ob = some key ∧ WL C es Γ S1 (fun vs S2 => C.run key (x :: vs) S2 P E) E) E
  | .make c es, Γ, S, P, E => ∃ key, C.init c = some (some key) ∧ WL C es Γ S (fun vs S1 => C.run key (.loc S1.length :: vs) (S1 ++ [.ins c []]) (fun v S2 => v = .non ∧ P (.loc S1.length) S2) E) E
  | .make0 c, _, S, P, _ => C.init c = some none ∧ P (.loc S.length) (S ++ [.ins c []])
  | .isc a x, Γ, S, P, E => W C a Γ S (fun v S1 => ∃ k, v = .loc k ∧ ∃ ob, S1[k]? = some ob ∧ ∃ b, clsIs C x ob = some b ∧ P (.bl b) S1) E
  | .isE a x, Γ, S, P, E => W C a Γ S (fun v S1 => ∃ ad, v = .exc ad ∧ ∃ c, C.cur = some (ad, c) ∧ ∃ b, C.xk c x = some b ∧ P (.bl b) S1) E
  | .isEt a xs, Γ, S, P, E => W C a Γ S (fun v S1 => ∃ ad, v = .exc ad ∧ ∃ c, C.cur = some (ad, c) ∧ ∃ b, xkAny C c xs = some b ∧ P (.bl b) S1) E
  | .dsp es, Γ, S, P, E => WL C es Γ (S ++ [.dct []]) (fun vs S1 => ∃ kvs, pairsV vs = some kvs ∧ kvs.length ≤ 15 ∧ S1[S.length]? = some (.dct []) ∧ P (.loc S.length) (S1.set S.length (.dct (mergeA [] kvs)))) E
  | .get1 o k, Γ, S, P, E => W C o Γ S (fun x S1 => isD S1 x ∧ W C k Γ S1 (fun y S2 => ∃ kvs, LD S2 x kvs ∧ ∃ kk, keyV y = some kk ∧ P ((dget kvs kk).getD .non) S2) E) E
  | .get2 o k d, Γ, S, P, E => W C o Γ S (fun x S1 => isD S1 x ∧ W C k Γ S1 (fun y S2 => W C d Γ S2 (fun z S3 => ∃ kvs, LD S3 x kvs ∧ ∃ kk, keyV y = some kk ∧ P ((dget kvs kk).getD z) S3) E) E) E
  | .gget x k d, Γ, S, P, E => ∃ l, C.gdct x = some l ∧ W C k Γ S (fun y S1 => W C d Γ S1 (fun z S2 => ∃ s, y = .str s ∧ ∃ o, l.lookup s = some o ∧ P (o.getD z) S2) E) E
  | .dpop1 o k, Γ, S, P, E => W C o Γ S (fun x S1 => isD S1 x ∧ W C k Γ S1 (fun y S2 => ∃ n, x = .loc n ∧ ∃ kvs, S2[n]? = some (.dct kvs) ∧ ∃ kk, keyV y = some kk ∧ ∃ v, dget kvs kk = some v ∧ P v (S2.set n (.dct (ddrop kvs kk)))) E) E
  | .dpop2 o k d, Γ, S, P, E => W C o Γ S (fun x S1 => isD S1 x ∧ W C k Γ S1 (fun y S2 => W C d Γ S2 (fun z S3 => ∃ n, x = .loc n ∧ ∃ kvs, S3[n]? = some (.dct kvs) ∧ ∃ kk, keyV y = some kk ∧ ((∃ v, dget kvs kk = some v ∧ P v (S3.set n (.dct (ddrop kvs kk)))) ∨ (dget kvs kk = none ∧ P z S3))) E) E) E
  | .evens a, Γ, S, P, E => W C a Γ S (fun x S1 => ∃ xs, LV S1 x xs ∧ P (.loc S1.length) (S1 ++ [.lst (evensL xs)])) E
  | .callv i es, Γ, S, P, E => ∃ z ws, gt Γ i = some (.fnv z ws) ∧ z ∈ C.fns ∧ WL C es Γ S (fun vs S1 => C.run z.id (vs ++ ws) S1 P E) E
  | .callc f es id q js, Γ, S, P, E => ∃ ws, capsA Γ js = some ws ∧ WL C es Γ S (fun vs S1 => hasTab S1 q ∧ ∀ z : Clo, z.id = id → C.runC z f (vs ++ [.fnv z ws]) S1 P E) E
  | .mcallc o m es id q js, Γ, S, P, E => ∃ ws, capsA Γ js = some ws ∧ W C o Γ S (fun x S1 => ∃ k, x = .loc k ∧ ∃ ob, S1[k]? = some ob ∧ ∃ key, mkey C m ob = some key ∧ WL C es Γ S1 (fun vs S2 => hasTab S2 q ∧ ∀ z : Clo, z.id = id → C.runC z key (x :: vs ++ [.fnv z ws]) S2 P E) E) E
  | .lck e, Γ, S, P, _ => ∃ k kvs, S[k]? = some (.dct kvs) ∧ W C e Γ (S.set k (.lok kvs)) (fun v S1 => S1[k]? = some (.lok kvs) ∧ P v (S1.set k (.dct kvs))) (fun _ _ => False)
def WOe (C : Orc) : Oe → Env → Sto → (Option Int → Sto → Prop) → PX → Prop
  | .none, _, S, P, _ => P none S
  | .some e, Γ, S, P, E => W C e Γ S (fun v S1 => ∃ i, v = .int i ∧ P (some i) S1) E
def WI (C : Orc) : It → Env → Sto → PI_ → PX → Prop
  | .seq e, Γ, S, P, E => W C e Γ S (fun v S1 => wSeq v S1 P) E
  | .range1 a, Γ, S, P, E => W C a Γ S (fun v S1 => ∃ i : Int, v = .int i ∧ -(2 ^ 62) ≤ i ∧ i < 2 ^ 62 ∧ P (rangeV 0 i.toNat) (fun _ => True) S1) E
  | .range2 a b, Γ, S, P, E => W C a Γ S (fun v S1 => W C b Γ S1 (fun u S2 => ∃ i : Int, v = .int i ∧ ∃ j : Int, u = .int j ∧ (-(2 ^ 62) ≤ i ∧ i < 2 ^ 62 ∧ -(2 ^ 62) ≤ j ∧ j < 2 ^ 62) ∧ P (rangeV i (j - i).toNat) (fun _ => True) S2) E) E
  | .enum e, Γ, S, P, E => W C e Γ S (fun v S1 => wEn v S1 fun xs G S2 => P (enumV 0 xs) G S2) E
  | .zip a b, Γ, S, P, E => W C a Γ S (fun v S1 => W C b Γ S1 (fun u S2 => wLst v S2 fun xs G S3 => wLst u S3 fun ys G' S4 => P (zipV xs ys) (fun S' => G S' ∧ G' S') S4) E) E
  | .rev e, Γ, S, P, E => W C e Γ S (fun v S1 => wLst v S1 fun xs G S2 => P xs.reverse G S2) E
  | .revr a, Γ, S, P, E => W C a Γ S (fun v S1 => ∃ i : Int, v = .int i ∧ (-(2 ^ 62) ≤ i ∧ i < 2 ^ 62) ∧ P (rangeDV (((i.toNat : Nat) : Int) - 1) i.toNat) (fun _ => True) S1) E
  | .rangeD a b, Γ, S, P, E => W C a Γ S (fun v S1 => W C b Γ S1 (fun u S2 => ∃ i : Int, v = .int i ∧ ∃ j : Int, u = .int j ∧ (-(2 ^ 62) ≤ i ∧ i < 2 ^ 62 ∧ -(2 ^ 62) ≤ j ∧ j < 2 ^ 62) ∧ P (rangeDV i (i - j).toNat) (fun _ => True) S2) E) E
  | .keys e, Γ, S, P, E => W C e Γ S (fun v S1 => ∃ k, v = .loc k ∧ ∃ kvs, S1[k]? = some (.lok kvs) ∧ P (kvs.map fun kv => keyA kv.1) (fun _ => True) S1) E
  | .items e, Γ, S, P, E => W C e Γ S (fun v S1 => ∃ k, v = .loc k ∧ ∃ kvs, S1[k]? = some (.lok kvs) ∧ P (kvs.map fun kv => .tup [keyA kv.1, kv.2]) (fun _ => True) S1) E
def WT0 (C : Orc) : Tes0 → Env → Sto → (Bool → Sto → Prop) → Prop
  | .none, _, S, P => P true S
  | .some t, Γ, S, P => WT C t Γ S P (fun _ _ => False)
/-- a test -/
def WT (C : Orc) : Te → Env → Sto → (Bool → Sto → Prop) → PX → Prop
  | .val e, Γ, S, P, E => W C e Γ S (fun v S1 => ∃ b, tru S1 v = some b ∧ P b S1) E
  | .not t, Γ, S, P, E => WT C t Γ S (fun b S1 => P (!b) S1) E
  | .and ts, Γ, S, P, E => WA C ts Γ S P E
  | .or ts, Γ, S, P, E => WO C ts Γ S P E
def WA (C : Orc) : Tes → Env → Sto → (Bool → Sto → Prop) → PX → Prop
  | .one t, Γ, S, P, E => WT C t Γ S P E
  | .cons t ts, Γ, S, P, E => WT C t Γ S (fun b S1 => if b = true then WA C ts Γ S1 P E else P false S1) E
def WO (C : Orc) : Tes → Env → Sto → (Bool → Sto → Prop) → PX → Prop
  | .one t, Γ, S, P, E => WT C t Γ S P E
  | .cons t ts, Γ, S, P, E => WT C t Γ S (fun b S1 => if b = true then P true S1 else WO C ts Γ S1 P E) E
/-- a test as a value: its parts but the last are truths -/
def WB (C : Orc) : Te → Env → Sto → PV → PX → Prop
  | .val e, Γ, S, P, E => W C e Γ S P E
  | .not t, Γ, S, P, E => WB C t Γ S (fun v S1 => ∃ b, v = .bl b ∧ P (.bl (!b)) S1) E
  | .and ts, Γ, S, P, E => WBA C ts Γ S P E
  | .or ts, Γ, S, P, E => WBO C ts Γ S P E
def WBA (C : Orc) : Tes → Env → Sto → PV → PX → Prop
  | .one t, Γ, S, P, E => WB C t Γ S P E
  | .cons t ts, Γ, S, P, E => WB C t Γ S (fun v S1 => ∃ b, tru S1 v = some b ∧ if b = true then WBA C ts Γ S1 P E else P v S1) E
def WBO (C : Orc) : Tes → Env → Sto → PV → PX → Prop
  | .one t, Γ, S, P, E => WB C t Γ S P E
  | .cons t ts, Γ, S, P, E => WB C t Γ S (fun v S1 => ∃ b, tru S1 v = some b ∧ if b = true then P v S1 else WBO C ts Γ S1 P E) E
def WL (C : Orc) : Exs → Env → Sto → PL → PX → Prop
  | .nil, _, S, P, _ => P [] S
  | .cons e es, Γ, S, P, E => W C e Γ S (fun v S1 => WL C es Γ S1 (fun vs S2 => P (v :: vs) S2) E) E
end

abbrev PE_ := Env → Sto → Prop
def augI : Bop → Int → Int → Option Int
  | .add, n, m => some (n + m) | .sub, n, m => some (n - m) | _, _, _ => none
structure AEnds where
  nx : PE_
  rt : PV
  bk : PE_ := fun _ _ => False
  ct : PE_ := fun _ _ => False
  ex : Str → Env → Sto → Prop := fun _ _ _ => False

/-- a while, n turns at most -/
def whN (t : Env → Sto → (Bool → Sto → Prop) → Prop) (b : PE_ → Env → Sto → Prop) (nx : PE_) : Nat → PE_
  | 0, _, _ => False
  | n + 1, Γ, S => t Γ S fun k S1 => if k = true then b (whN t b nx n) Γ S1 else nx Γ S1

/-- a for's turns -/
def frL (bind : Va → Env → Sto → Option Env) (b : PE_ → Env → Sto → Prop) (G : Sto → Prop) (nx : PE_) : List Va → PE_
  | [], Γ, S => nx Γ S
  | x :: xs, Γ, S => ∃ Γ1, bind x Γ S = some Γ1 ∧ b (fun Γ' S' => G S' ∧ frL bind b G nx xs Γ' S') Γ1 S

/-- the ends, a locked dict given free ahead of them -/
def lckD (k : Nat) (kvs : List (Key × Va)) (D : AEnds) : AEnds where
  nx := fun Γ S => S[k]? = some (.lok kvs) ∧ D.nx Γ (S.set k (.dct kvs))
  rt := fun v S => S[k]? = some (.lok kvs) ∧ D.rt v (S.set k (.dct kvs))
  bk := fun Γ S => S[k]? = some (.lok kvs) ∧ D.bk Γ (S.set k (.dct kvs))
  ct := fun Γ S => S[k]? = some (.lok kvs) ∧ D.ct Γ (S.set k (.dct kvs))
  ex := fun _ _ _ => False
/-- an except suite's ends: its name goes -/
def offD (o : Option Nat) (D : AEnds) : AEnds where
  nx := fun Γ S => D.nx (match o with | some i => Γ.set i none | none => Γ) S
  rt := D.rt
  bk := fun Γ S => D.bk (match o with | some i => Γ.set i none | none => Γ) S
  ct := fun Γ S => D.ct (match o with | some i => Γ.set i none | none => Γ) S
  ex := fun _ _ _ => False
/-- .. its slots at the start -/
def onE (o : Option Nat) (a : PySem.Addr) (Γ : Env) : Env := match o with | some i => Γ.set i (some (.exc a)) | none => Γ
mutual
def WS (C : Orc) : Sm → AEnds → Env → Sto → Prop
  | .set i e, D, Γ, S => W C e Γ S (fun v S1 => D.nx (Γ.set i (some v)) S1) (fun x S1 => D.ex x Γ S1)
  | .ret e, D, Γ, S => W C e Γ S D.rt (fun x S1 => D.ex x Γ S1)
  | .retN, D, _, S => D.rt .non S
  | .pass, D, Γ, S => D.nx Γ S
  | .brk, D, Γ, S => D.bk Γ S
  | .cont, D, Γ, S => D.ct Γ S
  | .drop e, D, Γ, S => W C e Γ S (fun _ S1 => D.nx Γ S1) (fun x S1 => D.ex x Γ S1)
  | .ite t a b, D, Γ, S => WT C t Γ S (fun k S1 => if k = true then WSs C a D Γ S1 else WSs C b D Γ S1) (fun x S1 => D.ex x Γ S1)
  | .whil t b, D, Γ, S => ∃ n, whN (fun Γ S P => WT C t Γ S P (fun x S1 => D.ex x Γ S1)) (fun Nx Γ S => WSs C b { D with nx := Nx, ct := Nx, bk := D.nx } Γ S) D.nx n Γ S
  | .raise x, D, Γ, S => D.ex x Γ S
  | .asg tg e, D, Γ, S => W C e Γ S (fun v S1 => ∃ Γ1, bindT S1 tg v Γ = some Γ1 ∧ D.nx Γ1 S1) (fun x S1 => D.ex x Γ S1)
  | .setSub o i e, D, Γ, S => W C e Γ S (fun v S1 => W C o Γ S1 (fun x S2 => W C i Γ S2 (fun y S3 => ∃ k, x = .loc k ∧ ∃ ob, S3[k]? = some ob ∧ ∃ ob', putO ob y v = some ob' ∧ D.nx Γ (S3.set k ob')) (fun x S1 => D.ex x Γ S1)) (fun x S1 => D.ex x Γ S1)) (fun x S1 => D.ex x Γ S1)
  | .aug i op e, D, Γ, S => ∃ x, gt Γ i = some x ∧ W C e Γ S (fun y S1 => ∃ n : Int, x = .int n ∧ ∃ m : Int, y = .int m ∧ ∃ r : Int, augI op n m = some r ∧ D.nx (Γ.set i (some (.int r))) S1) (fun x S1 => D.ex x Γ S1)
  | .setC i own elt tg it cond, D, Γ, S => WI C it Γ S (fun xs G S1 => G (S1 ++ [.lst []]) ∧ cpL (fun x S => bindT S tg x (wipeA Γ own)) (fun Γ S Q => WT0 C cond Γ S Q) (fun Γ S Q => W C elt Γ S Q (fun _ _ => False)) G S1.length (fun v S2 => D.nx (Γ.set i (some v)) S2) xs (S1 ++ [.lst []])) (fun x S1 => D.ex x Γ S1)
  | .for_ tg it b, D, Γ, S => WI C it Γ S (fun xs G S1 => G S1 ∧ frL (fun x Γ S => bindT S tg x Γ) (fun Nx Γ S => WSs C b { D with nx := Nx, ct := Nx, bk := D.nx } Γ S) G D.nx xs Γ S1) (fun x S1 => D.ex x Γ S1)
  | .setFld o f e, D, Γ, S => W C e Γ S (fun v S1 => W C o Γ S1 (fun x S2 => ∃ k, x = .loc k ∧ ∃ ob, S2[k]? = some ob ∧ ∃ ob', putFO C f v ob = some ob' ∧ D.nx Γ (S2.set k ob')) (fun x S1 => D.ex x Γ S1)) (fun x S1 => D.ex x Γ S1)
  | .augFld o f op e, D, Γ, S => op = .add ∧ W C o Γ S (fun x S1 => ∃ k, x = .loc k ∧ ∃ ob, S1[k]? = some ob ∧ ∃ u, fldO C f ob = some u ∧ W C e Γ S1 (fun y S2 => ∃ n : Int, u = .int n ∧ ∃ m : Int, y = .int m ∧ ∃ ob2, S2[k]? = some ob2 ∧ clsOf ob2 = clsOf ob ∧ ∃ ob', putFO C f (.int (n + m)) ob2 = some ob' ∧ D.nx Γ (S2.set k ob')) (fun x S1 => D.ex x Γ S1)) (fun x S1 => D.ex x Γ S1)
  | .lck s, D, Γ, S => ∃ k kvs, S[k]? = some (.dct kvs) ∧ WS C s (lckD k kvs D) Γ (S.set k (.lok kvs))
  | .try_ b x o su, D, Γ, S => WSs C b { D with ex := fun c Γ' S' => ∃ kk, C.xk c x = some kk ∧ if kk = true then ∀ a, WSs { C with cur := some (a, c) } su (offD o D) (onE o a Γ') S' else D.ex c Γ' S' } Γ S
def WSs (C : Orc) : Sms → AEnds → Env → Sto → Prop
  | .nil, D, Γ, S => D.nx Γ S
  | .cons s ss, D, Γ, S => WS C s { D with nx := fun Γ S => WSs C ss D Γ S } Γ S
end
end AM

namespace AM
mutual
/-- the slots that a target fills -/
def tgS : Tg → List Nat
  | .name i => [i]
  | .tup ts => tgsS ts
def tgsS : Tgs → List Nat
  | .nil => []
  | .cons t ts => tgS t ++ tgsS ts
end
end AM
end

section
set_option linter.all false
set_option maxRecDepth 100000
/-! AM, second part: how the store stands for the heap. -/
namespace AM
open PySem L2

section
variable (K : PySem.W.Frag) (F : Hp) (β : List Addr)
mutual
def VR : Va → V → Prop
  | .non, x => x = .non
  | .bl b, x => x = .bl b
  | .int i, x => x = .int i
  | .str z, x => x = .str z
  | .tup xs, x => ∃ a ys, x = .ref a ∧ SqT K F a ys ∧ VRs xs ys
  | .lst xs, x => ∃ a ys, x = .ref a ∧ F a = some (.lst ys) ∧ VRs xs ys
  | .dct kvs, x => ∃ a ys, x = .ref a ∧ F a = some (.dK ys) ∧ VRk kvs ys
  | .loc n, x => ∃ a, x = .ref a ∧ β[n]? = some a
  | .scr ns, x => ∃ a, x = .ref a ∧ SqL K F a (ns.map V.int)
  | .exc a, x => x = .ref a
  | .fnv z ws, x => x = .ref z.f ∧ F z.c = some (LamX.CodeO z.c z.q) ∧ VRs ws z.xs
def VRs : List Va → List V → Prop
  | [], ys => ys = []
  | x :: xs, ys => ∃ y r, ys = y :: r ∧ VR x y ∧ VRs xs r
def VRk : List (Key × Va) → List (Key × V) → Prop
  | [], ys => ys = []
  | (k, x) :: xs, ys => ∃ y r, ys = (k, y) :: r ∧ VR x y ∧ VRk xs r
end
def VRf : List (Str × Va) → List (Str × V) → Prop
  | [], ys => ys = []
  | (k, x) :: xs, ys => ∃ y r, ys = (k, y) :: r ∧ VR K F β x y ∧ VRf xs r

/-- an object of the store at its address -/
def OR (cA : Str → Addr) (H : Hp) : Ob → Addr → Prop
  | .lst xs, a => ∃ ys, H a = some (.lst ys) ∧ VRs K F β xs ys
  | .dct kvs, a => ∃ ys, H a = some (.dK ys) ∧ VRk K F β kvs ys
  | .ins C fs, a => ∃ dx ys, H a = some (.ins (cA C) dx ys) ∧ VRf K F β fs ys
  | .dead, _ => True
  | .lok kvs, a => ∃ od ys, F a = some (.frz od (.dK ys)) ∧ VRk K F β kvs ys
  | .tab q, a => a = cA q ∧ ∃ ps : Array Value, H a = some (.tbl ps) ∧ TriplesOk ps.toList ∧ ∀ (pos : Pos) (cv : Value), codeAmong pos ps.toList = some cv → ∃ c, cv = .ref c ∧ F c = some (LamX.CodeO c q)
end
/-- a thing of the store isn't frozen, but where it is locked -/
def FrO (F : Hp) : Ob → Addr → Prop
  | .lok _, _ => True
  | .lst _, a => F a = none
  | .dct _, a => F a = none
  | .ins _ _, a => F a = none
  | .dead, a => F a = none
  | .tab _, a => F a = none
theorem FrO.of {F : Hp} {o : Ob} {a : Addr} (h : F a = none) : FrO F o a := by cases o <;> first | exact h | trivial
theorem FrO.to {F F' : Hp} {o : Ob} {a : Addr} (e : F' a = F a) (h : FrO F o a) : FrO F' o a := by cases o <;> first | exact e.trans h | trivial
theorem FrO.out {F : Hp} {o : Ob} {a : Addr} (n : ∀ kvs, o ≠ .lok kvs) (h : FrO F o a) : F a = none := by cases o <;> first | exact h | exact absurd rfl (n _)

/-- F: what is frozen; β: where the store's objects stand -/
structure Sim (K : PySem.W.Frag) (cA : Str → Addr) (F : Hp) (β : List Addr) (S : Sto) (H : Hp) : Prop where
  sub : Same F H
  len : β.length = S.length
  inj : ∀ (i j : Nat) (a : Addr), β[i]? = some a → β[j]? = some a → i = j
  obj : ∀ (i : Nat) (o : Ob) (a : Addr), S[i]? = some o → β[i]? = some a → FrO F o a ∧ OR K F β cA H o a
  fresh : ∀ a ∈ β, H a ≠ none

def VRo (K : PySem.W.Frag) (F : Hp) (β : List Addr) : Option Va → Option V → Prop
  | some v, some x => VR K F β v x
  | some _, none => False
  | none, _ => True
def EnvR (K : PySem.W.Frag) (F : Hp) (β : List Addr) : Env → St → Prop
  | [], [] => True
  | v :: Γ, x :: σ => VRo K F β v x ∧ EnvR K F β Γ σ
  | _, _ => False

structure Ext (F : Hp) (β : List Addr) (F' : Hp) (β' : List Addr) : Prop where
  sub : Same F F'
  pre : β <+: β'

theorem SqL.mono {K : PySem.W.Frag} {F F' : Hp} (h : Same F F') {a : Addr} {xs : List V} (x : SqL K F a xs) : SqL K F' a xs := h.seq x
theorem SqT.mono {K : PySem.W.Frag} {F F' : Hp} (h : Same F F') {a : Addr} {xs : List V} (x : SqT K F a xs) : SqT K F' a xs := by
  rcases x with (x | ⟨o, x⟩) | x
  · exact .inl (.inl (h _ _ x))
  · exact .inl (.inr ⟨o, h _ _ x⟩)
  · exact .inr x
theorem Rd.mono {F F' : Hp} (h : Same F F') {a : Addr} {u : HO} (x : Rd F a u) : Rd F' a u := by
  rcases x with x | ⟨o, x⟩
  · exact .inl (h _ _ x)
  · exact .inr ⟨o, h _ _ x⟩
theorem pre_get {β β' : List Addr} (h : β <+: β') {n : Nat} {a : Addr} (e : β[n]? = some a) : β'[n]? = some a := by
  obtain ⟨t, rfl⟩ := h
  have hl : n < β.length := by
    by_cases q : n < β.length
    · exact q
    · rw [List.getElem?_eq_none (by omega)] at e; cases e
  rw [List.getElem?_append_left hl]; exact e

section
variable {K : PySem.W.Frag} {F F' : Hp} {β β' : List Addr} (h : Same F F') (hb : β <+: β')
include h hb
mutual
theorem VR.mono : ∀ (v : Va) (x : V), VR K F β v x → VR K F' β' v x
  | .non, x, q => q
  | .bl b, x, q => q
  | .int i, x, q => q
  | .str z, x, q => q
  | .tup xs, x, ⟨a, ys, e, s, r⟩ => ⟨a, ys, e, SqT.mono h s, VRs.mono xs ys r⟩
  | .lst xs, x, ⟨a, ys, e, s, r⟩ => ⟨a, ys, e, h _ _ s, VRs.mono xs ys r⟩
  | .dct kvs, x, ⟨a, ys, e, s, r⟩ => ⟨a, ys, e, h _ _ s, VRk.mono kvs ys r⟩
  | .loc n, x, ⟨a, e, q⟩ => ⟨a, e, pre_get hb q⟩
  | .scr ns, x, ⟨a, e, q⟩ => ⟨a, e, SqL.mono h q⟩
  | .exc a, x, q => q
  | .fnv z ws, x, ⟨e, q, r⟩ => ⟨e, h _ _ q, VRs.mono ws z.xs r⟩
theorem VRs.mono : ∀ (v : List Va) (x : List V), VRs K F β v x → VRs K F' β' v x
  | [], x, q => q
  | v :: vs, x, ⟨y, r, e, q, qs⟩ => ⟨y, r, e, VR.mono v y q, VRs.mono vs r qs⟩
theorem VRk.mono : ∀ (v : List (Key × Va)) (x : List (Key × V)), VRk K F β v x → VRk K F' β' v x
  | [], x, q => q
  | (k, v) :: vs, x, ⟨y, r, e, q, qs⟩ => ⟨y, r, e, VR.mono v y q, VRk.mono vs r qs⟩
end
theorem VRf.mono : ∀ (v : List (Str × Va)) (x : List (Str × V)), VRf K F β v x → VRf K F' β' v x
  | [], x, q => q
  | (k, v) :: vs, x, ⟨y, r, e, q, qs⟩ => ⟨y, r, e, VR.mono h hb v y q, VRf.mono vs r qs⟩
theorem VRo.mono : ∀ (v : Option Va) (x : Option V), VRo K F β v x → VRo K F' β' v x
  | some v, some x, q => VR.mono h hb v x q
  | none, _, _ => trivial
theorem EnvR.mono : ∀ (Γ : Env) (σ : St), EnvR K F β Γ σ → EnvR K F' β' Γ σ
  | [], [], _ => trivial
  | v :: Γ, x :: σ, ⟨q, r⟩ => ⟨VRo.mono h hb v x q, EnvR.mono Γ σ r⟩
end
theorem Ext.refl (F : Hp) (β : List Addr) : Ext F β F β := ⟨Same.refl F, List.prefix_refl β⟩
theorem Ext.trans {F F1 F2 : Hp} {β β1 β2 : List Addr} (a : Ext F β F1 β1) (b : Ext F1 β1 F2 β2) : Ext F β F2 β2 := ⟨a.sub.trans b.sub, a.pre.trans b.pre⟩

section
variable {K : PySem.W.Frag} {F : Hp} {β : List Addr}
theorem EnvR.get : ∀ {Γ : Env} {σ : St} {i : Nat} {v : Va}, EnvR K F β Γ σ → gt Γ i = some v → ∃ x, σ[i]? = some (some x) ∧ VR K F β v x
  | [], _, i, v, _, e => by simp [gt] at e
  | o :: Γ, [], i, v, h, e => by simp [EnvR] at h
  | o :: Γ, x :: σ, 0, v, ⟨h, _⟩, e => by
    have e' : o = some v := e
    subst e'
    cases x with
    | none => exact h.elim
    | some x => exact ⟨x, rfl, h⟩
  | o :: Γ, x :: σ, i + 1, v, ⟨_, h⟩, e => by
    obtain ⟨y, e1, r⟩ := EnvR.get (i := i) h e
    exact ⟨y, by simpa using e1, r⟩
theorem EnvR.set : ∀ {Γ : Env} {σ : St} {i : Nat} {v : Va} {x : V}, EnvR K F β Γ σ → VR K F β v x → EnvR K F β (Γ.set i (some v)) (σ.set i (some x))
  | [], [], _, _, _, _, _ => trivial
  | [], _ :: _, _, _, _, h, _ => by simp [EnvR] at h
  | _ :: _, [], _, _, _, h, _ => by simp [EnvR] at h
  | o :: Γ, y :: σ, 0, v, x, ⟨_, h⟩, r => ⟨r, h⟩
  | o :: Γ, y :: σ, i + 1, v, x, ⟨q, h⟩, r => ⟨q, EnvR.set h r⟩
theorem EnvR.len : ∀ {Γ : Env} {σ : St}, EnvR K F β Γ σ → Γ.length = σ.length
  | [], [], _ => rfl
  | [], _ :: _, h => by simp [EnvR] at h
  | _ :: _, [], h => by simp [EnvR] at h
  | _ :: Γ, _ :: σ, ⟨_, h⟩ => by simp [EnvR.len h]
theorem VRs.len : ∀ {xs : List Va} {ys : List V}, VRs K F β xs ys → xs.length = ys.length
  | [], _, h => by cases (show _ = [] from h); rfl
  | x :: xs, _, ⟨y, r, e, _, q⟩ => by subst e; simp [VRs.len q]
theorem VRs.get : ∀ {xs : List Va} {ys : List V} {i : Nat} {v : Va}, VRs K F β xs ys → xs[i]? = some v → ∃ x, ys[i]? = some x ∧ VR K F β v x
  | [], _, i, v, _, e => by simp at e
  | x :: xs, _, 0, v, ⟨y, r, e, q, _⟩, h => by subst e; simp at h; subst h; exact ⟨y, rfl, q⟩
  | x :: xs, _, i + 1, v, ⟨y, r, e, _, q⟩, h => by
    subst e
    obtain ⟨z, e1, r1⟩ := VRs.get (i := i) (v := v) q (by simpa using h)
    exact ⟨z, by simpa using e1, r1⟩
theorem VRs.append : ∀ {xs xs' : List Va} {ys ys' : List V}, VRs K F β xs ys → VRs K F β xs' ys' → VRs K F β (xs ++ xs') (ys ++ ys')
  | [], _, _, _, h, q => by cases (show _ = [] from h); exact q
  | x :: xs, _, _, _, ⟨y, r, e, q, qs⟩, h => by subst e; exact ⟨y, _, rfl, q, VRs.append qs h⟩
end

theorem EnvR.wipe1 {K : PySem.W.Frag} {F : Hp} {β : List Addr} : ∀ {Γ : Env} {σ : St} {i : Nat} {o : Option V}, EnvR K F β Γ σ → EnvR K F β (Γ.set i none) (σ.set i o)
  | [], [], _, _, _ => trivial
  | [], _ :: _, _, _, h => by simp [EnvR] at h
  | _ :: _, [], _, _, h => by simp [EnvR] at h
  | o :: Γ, y :: σ, 0, _, ⟨_, h⟩ => ⟨trivial, h⟩
  | o :: Γ, y :: σ, i + 1, _, ⟨q, h⟩ => ⟨q, EnvR.wipe1 h⟩
theorem VRs.ints {K : PySem.W.Frag} {F : Hp} {β : List Addr} : ∀ {ns : List Int} {ys : List V}, VRs K F β (ns.map Va.int) ys ↔ ys = ns.map V.int
  | [], ys => Iff.rfl
  | n :: ns, ys => by
    constructor
    · rintro ⟨y, r, e, q, qs⟩
      cases (show y = .int n from q)
      rw [e, VRs.ints.mp qs]; rfl
    · rintro rfl
      exact ⟨.int n, ns.map V.int, rfl, rfl, VRs.ints.mpr rfl⟩
theorem VRs.bls {K : PySem.W.Frag} {F : Hp} {β : List Addr} : ∀ {ns : List Bool} {ys : List V}, VRs K F β (ns.map Va.bl) ys ↔ ys = ns.map V.bl
  | [], ys => Iff.rfl
  | n :: ns, ys => by
    constructor
    · rintro ⟨y, r, e, q, qs⟩
      cases (show y = .bl n from q)
      rw [e, VRs.bls.mp qs]; rfl
    · rintro rfl
      exact ⟨.bl n, ns.map V.bl, rfl, rfl, VRs.bls.mpr rfl⟩
theorem VRs.strs {K : PySem.W.Frag} {F : Hp} {β : List Addr} : ∀ {ns : List Str} {ys : List V}, VRs K F β (ns.map Va.str) ys ↔ ys = ns.map V.str
  | [], ys => Iff.rfl
  | n :: ns, ys => by
    constructor
    · rintro ⟨y, r, e, q, qs⟩
      cases (show y = .str n from q)
      rw [e, VRs.strs.mp qs]; rfl
    · rintro rfl
      exact ⟨.str n, ns.map V.str, rfl, rfl, VRs.strs.mpr rfl⟩
section
variable {K : PySem.W.Frag} {cA : Str → Addr} {F : Hp} {β : List Addr} {S : Sto} {H : Hp}
theorem OR.mono {F' : Hp} {β' : List Addr} {H' : Hp} (h : Same F F') (hb : β <+: β') {o : Ob} {a : Addr} (e : H' a = H a) (q : OR K F β cA H o a) : OR K F' β' cA H' o a := by
  cases o with
  | lst xs => obtain ⟨ys, e1, r⟩ := q; exact ⟨ys, e.trans e1, VRs.mono h hb _ _ r⟩
  | dct kvs => obtain ⟨ys, e1, r⟩ := q; exact ⟨ys, e.trans e1, VRk.mono h hb _ _ r⟩
  | ins C fs => obtain ⟨dx, ys, e1, r⟩ := q; exact ⟨dx, ys, e.trans e1, VRf.mono h hb _ _ r⟩
  | dead => trivial
  | lok kvs => obtain ⟨od, ys, e1, r⟩ := q; exact ⟨od, ys, h _ _ e1, VRk.mono h hb _ _ r⟩
  | tab z => obtain ⟨e0, ps, e1, t, r⟩ := q; exact ⟨e0, ps, e.trans e1, t, fun p cv z => let ⟨c, e2, e3⟩ := r p cv z; ⟨c, e2, h _ _ e3⟩⟩
theorem lt_of_get {α : Type} {l : List α} {i : Nat} {x : α} (e : l[i]? = some x) : i < l.length := by
  by_cases q : i < l.length
  · exact q
  · rw [List.getElem?_eq_none (by omega)] at e; cases e
theorem Sim.at (s : Sim K cA F β S H) {k : Nat} {o : Ob} (e : S[k]? = some o) : ∃ a, β[k]? = some a ∧ FrO F o a ∧ OR K F β cA H o a := by
  have hk := lt_of_get e
  have hk2 : k < β.length := by rw [s.len]; exact hk
  exact ⟨β[k], by simp [hk2], s.obj k o _ e (by simp [hk2])⟩
/-- a frozen object laid -/
theorem Sim.lay (s : Sim K cA F β S H) {p : Addr} (hp : H p = none) (o : HO) : Sim K cA (upd F p o) β S (upd H p o) ∧ Same F (upd F p o) := by
  have fp : F p = none := s.sub.free hp
  have sub : Same F (upd F p o) := fun b u e => by rw [upd_ne (ne_of_none e fp)]; exact e
  have hne : ∀ a ∈ β, a ≠ p := fun a ha e => s.fresh a ha (e ▸ hp)
  refine ⟨⟨fun b u e => ?_, s.len, s.inj, fun i ob a e1 e2 => ?_, fun a ha => ?_⟩, sub⟩
  · by_cases hb : b = p
    · subst hb; rw [upd_same] at e ⊢; exact e
    · rw [upd_ne hb] at e ⊢; exact s.sub _ _ e
  · obtain ⟨h1, h2⟩ := s.obj i ob a e1 e2
    have ha : a ≠ p := hne a (List.mem_of_getElem? e2)
    exact ⟨h1.to (upd_ne ha), OR.mono sub (List.prefix_refl _) (by rw [upd_ne ha]) h2⟩
  · rw [upd_ne (hne a ha)]; exact s.fresh a ha
/-- an object of the store laid -/
theorem Sim.new (s : Sim K cA F β S H) {p : Addr} (hp : H p = none) {o : Ob} {u : HO} (q : OR K F (β ++ [p]) cA (upd H p u) o p) : Sim K cA F (β ++ [p]) (S ++ [o]) (upd H p u) := by
  have fp : F p = none := s.sub.free hp
  have hne : ∀ a ∈ β, a ≠ p := fun a ha e => s.fresh a ha (e ▸ hp)
  refine ⟨fun b v e => ?_, by simp [s.len], fun i j a e1 e2 => ?_, fun i ob a e1 e2 => ?_, fun a ha => ?_⟩
  · rw [upd_ne (ne_of_none e fp)]; exact s.sub _ _ e
  · have key : ∀ i, (β ++ [p])[i]? = some a → (β[i]? = some a ∧ i < β.length) ∨ (i = β.length ∧ a = p) := fun i e => by
      by_cases hi : i < β.length
      · rw [List.getElem?_append_left hi] at e; exact .inl ⟨e, hi⟩
      · rw [List.getElem?_append_right (by omega)] at e
        have hl := lt_of_get e
        simp only [List.length_singleton] at hl
        have h0 : i - β.length = 0 := by omega
        rw [h0] at e
        exact .inr ⟨by omega, (Option.some.inj e).symm⟩
    rcases key i e1 with ⟨x1, _⟩ | ⟨x1, y1⟩
    · rcases key j e2 with ⟨x2, _⟩ | ⟨x2, y2⟩
      · exact s.inj i j a x1 x2
      · exact absurd y2 (hne a (List.mem_of_getElem? x1))
    · rcases key j e2 with ⟨x2, _⟩ | ⟨x2, y2⟩
      · exact absurd y1 (hne a (List.mem_of_getElem? x2))
      · omega
  · by_cases hi : i < S.length
    · have hib : i < β.length := by rw [s.len]; exact hi
      rw [List.getElem?_append_left hi] at e1
      rw [List.getElem?_append_left hib] at e2
      obtain ⟨h1, h2⟩ := s.obj i ob a e1 e2
      exact ⟨h1, OR.mono (Same.refl _) (List.prefix_append _ _) (by rw [upd_ne (hne a (List.mem_of_getElem? e2))]) h2⟩
    · have hib : ¬ i < β.length := by rw [s.len]; exact hi
      rw [List.getElem?_append_right (by omega)] at e1 e2
      have hl := lt_of_get e1
      simp only [List.length_singleton] at hl
      have h0 : i - S.length = 0 := by omega
      have h0' : i - β.length = 0 := by rw [s.len]; exact h0
      rw [h0] at e1
      rw [h0'] at e2
      cases (Option.some.inj e1 : o = ob)
      cases (Option.some.inj e2 : p = a)
      exact ⟨.of fp, q⟩
  · rcases List.mem_append.mp ha with h1 | h1
    · rw [upd_ne (hne a h1)]; exact s.fresh a h1
    · have : a = p := by simpa using h1
      subst this
      rw [upd_same]; simp
/-- an object of the store changed -/
theorem Sim.put (s : Sim K cA F β S H) {k : Nat} {a : Addr} {o : Ob} {u : HO} (hk : k < S.length) (ha : β[k]? = some a) (fa : F a = none) (q : OR K F β cA (upd H a u) o a) : Sim K cA F β (S.set k o) (upd H a u) := by
  refine ⟨fun b v e => ?_, by simp [s.len], s.inj, fun i ob b e1 e2 => ?_, fun b hb => ?_⟩
  · rw [upd_ne (ne_of_none e fa)]; exact s.sub _ _ e
  · by_cases hi : k = i
    · subst hi
      rw [List.getElem?_set_self hk] at e1
      cases (Option.some.inj e1 : o = ob)
      rw [ha] at e2
      cases (Option.some.inj e2 : a = b)
      exact ⟨.of fa, q⟩
    · rw [List.getElem?_set_ne hi] at e1
      obtain ⟨h1, h2⟩ := s.obj i ob b e1 e2
      have hb : b ≠ a := fun z => hi (s.inj k i a ha (z ▸ e2))
      exact ⟨h1, OR.mono (Same.refl _) (List.prefix_refl _) (by rw [upd_ne hb]) h2⟩
  · by_cases hba : b = a
    · subst hba; rw [upd_same]; simp
    · rw [upd_ne hba]; exact s.fresh b hb
end
/-! ### a dict of the store locked and given free -/
section
variable {K : PySem.W.Frag} {F F' : Hp} {β : List Addr}
/-- what is kept but a locked dict -/
def KeepF (F F' : Hp) : Prop := ∀ b o, F b = some o → (∀ od ys, o ≠ .frz od (.dK ys)) → F' b = some o
theorem KeepF.tup (h : KeepF F F') {a : Addr} {xs : List V} (x : SqT K F a xs) : SqT K F' a xs := by
  rcases x with (x | ⟨o, x⟩) | x
  · exact .inl (.inl (h _ _ x (fun _ _ z => by cases z)))
  · exact .inl (.inr ⟨o, h _ _ x (fun _ _ z => by cases z)⟩)
  · exact .inr x
theorem KeepF.lst (h : KeepF F F') {a : Addr} {xs : List V} (x : SqL K F a xs) : SqL K F' a xs := by
  rcases x with (x | ⟨o, x⟩) | x
  · exact .inl (.inl (h _ _ x (fun _ _ z => by cases z)))
  · exact .inl (.inr ⟨o, h _ _ x (fun _ _ z => by cases z)⟩)
  · exact .inr x
section
variable (h : KeepF F F')
include h
mutual
theorem VR.unf : ∀ (v : Va) (x : V), VR K F β v x → VR K F' β v x
  | .non, x, q => q
  | .bl b, x, q => q
  | .int i, x, q => q
  | .str z, x, q => q
  | .tup xs, x, ⟨a, ys, e, s, r⟩ => ⟨a, ys, e, h.tup s, VRs.unf xs ys r⟩
  | .lst xs, x, ⟨a, ys, e, s, r⟩ => ⟨a, ys, e, h _ _ s (fun _ _ z => by cases z), VRs.unf xs ys r⟩
  | .dct kvs, x, ⟨a, ys, e, s, r⟩ => ⟨a, ys, e, h _ _ s (fun _ _ z => by cases z), VRk.unf kvs ys r⟩
  | .loc n, x, ⟨a, e, q⟩ => ⟨a, e, q⟩
  | .scr ns, x, ⟨a, e, q⟩ => ⟨a, e, h.lst q⟩
  | .exc a, x, q => q
  | .fnv z ws, x, ⟨e, q, r⟩ => ⟨e, h _ _ q (fun _ _ z => by unfold LamX.CodeO at z; cases z), VRs.unf ws z.xs r⟩
theorem VRs.unf : ∀ (v : List Va) (x : List V), VRs K F β v x → VRs K F' β v x
  | [], x, q => q
  | v :: vs, x, ⟨y, r, e, q, qs⟩ => ⟨y, r, e, VR.unf v y q, VRs.unf vs r qs⟩
theorem VRk.unf : ∀ (v : List (Key × Va)) (x : List (Key × V)), VRk K F β v x → VRk K F' β v x
  | [], x, q => q
  | (k, v) :: vs, x, ⟨y, r, e, q, qs⟩ => ⟨y, r, e, VR.unf v y q, VRk.unf vs r qs⟩
end
theorem VRf.unf : ∀ (v : List (Str × Va)) (x : List (Str × V)), VRf K F β v x → VRf K F' β v x
  | [], x, q => q
  | (k, v) :: vs, x, ⟨y, r, e, q, qs⟩ => ⟨y, r, e, VR.unf h v y q, VRf.unf vs r qs⟩
theorem VRo.unf : ∀ (v : Option Va) (x : Option V), VRo K F β v x → VRo K F' β v x
  | some v, some x, q => VR.unf h v x q
  | none, _, _ => trivial
theorem EnvR.unf : ∀ (Γ : Env) (σ : St), EnvR K F β Γ σ → EnvR K F' β Γ σ
  | [], [], _ => trivial
  | v :: Γ, x :: σ, ⟨q, r⟩ => ⟨VRo.unf h v x q, EnvR.unf Γ σ r⟩
end
variable {cA : Str → Addr} {S : Sto} {H : Hp}
theorem OR.unf {H' : Hp} (h : KeepF F F') {o : Ob} {a : Addr} (e : H' a = H a) (ef : F' a = F a) (q : OR K F β cA H o a) : OR K F' β cA H' o a := by
  cases o with
  | lst xs => obtain ⟨ys, e1, r⟩ := q; exact ⟨ys, e.trans e1, VRs.unf h _ _ r⟩
  | dct kvs => obtain ⟨ys, e1, r⟩ := q; exact ⟨ys, e.trans e1, VRk.unf h _ _ r⟩
  | ins C fs => obtain ⟨dx, ys, e1, r⟩ := q; exact ⟨dx, ys, e.trans e1, VRf.unf h _ _ r⟩
  | dead => trivial
  | lok kvs => obtain ⟨od, ys, e1, r⟩ := q; exact ⟨od, ys, ef.trans e1, VRk.unf h _ _ r⟩
  | tab z => obtain ⟨e0, ps, e1, t, r⟩ := q; exact ⟨e0, ps, e.trans e1, t, fun p cv z => let ⟨c, e2, e3⟩ := r p cv z; ⟨c, e2, h _ _ e3 (fun _ _ z => by unfold LamX.CodeO at z; cases z)⟩⟩
theorem Sim.lock (s : Sim K cA F β S H) {k : Nat} {a : Addr} {od : Obj} {kvs : List (Key × Va)} {ys : List (Key × V)} (hk : k < S.length) (ha : β[k]? = some a) (fa : F a = none) (r : VRk K F β kvs ys) (he : H a ≠ none) :
    Sim K cA (upd F a (.frz od (.dK ys))) β (S.set k (.lok kvs)) (upd H a (.frz od (.dK ys))) ∧ Same F (upd F a (.frz od (.dK ys))) := by
  have sub : Same F (upd F a (.frz od (.dK ys))) := fun b u e => by rw [upd_ne (ne_of_none e fa)]; exact e
  refine ⟨⟨fun b v e => ?_, by simp [s.len], s.inj, fun i ob b e1 e2 => ?_, fun b hb => ?_⟩, sub⟩
  · by_cases hb : b = a
    · subst hb; rw [upd_same] at e ⊢; exact e
    · rw [upd_ne hb] at e ⊢; exact s.sub _ _ e
  · by_cases hi : k = i
    · subst hi
      rw [List.getElem?_set_self hk] at e1
      cases (Option.some.inj e1 : Ob.lok kvs = ob)
      rw [ha] at e2
      cases (Option.some.inj e2 : a = b)
      exact ⟨trivial, od, ys, upd_same, VRk.mono sub (List.prefix_refl _) _ _ r⟩
    · rw [List.getElem?_set_ne hi] at e1
      obtain ⟨h1, h2⟩ := s.obj i ob b e1 e2
      have hb : b ≠ a := fun z => hi (s.inj k i a ha (z ▸ e2))
      exact ⟨h1.to (upd_ne hb), OR.mono sub (List.prefix_refl _) (by rw [upd_ne hb]) h2⟩
  · by_cases hba : b = a
    · subst hba; rw [upd_same]; simp
    · rw [upd_ne hba]; exact s.fresh b hb
def dropF (F : Hp) (a : Addr) : Hp := fun b => if b = a then none else F b
theorem Sim.unlock (s : Sim K cA F β S H) {k : Nat} {a : Addr} {od : Obj} {kvs : List (Key × Va)} {ys : List (Key × V)} (hk : S[k]? = some (.lok kvs)) (ha : β[k]? = some a) (fa : F a = some (.frz od (.dK ys))) :
    Sim K cA (dropF F a) β (S.set k (.dct kvs)) (upd H a (.dK ys)) ∧ KeepF F (dropF F a) := by
  have keep : KeepF F (dropF F a) := fun b o e n => by
    have hb : b ≠ a := fun z => by
      subst z
      rw [fa] at e
      cases e
      exact n _ _ rfl
    show (if b = a then none else F b) = _
    rw [if_neg hb]; exact e
  have nef : ∀ b, b ≠ a → dropF F a b = F b := fun b hb => if_neg hb
  refine ⟨⟨fun b v e => ?_, by simp [s.len], s.inj, fun i ob b e1 e2 => ?_, fun b hb => ?_⟩, keep⟩
  · have hb : b ≠ a := fun z => by
      subst z
      rw [show dropF F b b = none from if_pos rfl] at e
      cases e
    rw [nef b hb] at e
    rw [upd_ne hb]; exact s.sub _ _ e
  · by_cases hi : k = i
    · subst hi
      rw [List.getElem?_set_self (lt_of_get hk)] at e1
      cases (Option.some.inj e1 : Ob.dct kvs = ob)
      rw [ha] at e2
      cases (Option.some.inj e2 : a = b)
      obtain ⟨_, od', ys', e3, r⟩ := s.obj k _ a hk ha
      rw [fa] at e3
      cases e3
      exact ⟨(if_pos rfl : dropF F a a = none), ys, upd_same, VRk.unf keep _ _ r⟩
    · rw [List.getElem?_set_ne hi] at e1
      obtain ⟨h1, h2⟩ := s.obj i ob b e1 e2
      have hb : b ≠ a := fun z => hi (s.inj k i a ha (z ▸ e2))
      exact ⟨h1.to (nef b hb), OR.unf keep (by rw [upd_ne hb]) (nef b hb) h2⟩
  · by_cases hba : b = a
    · subst hba; rw [upd_same]; simp
    · rw [upd_ne hba]; exact s.fresh b hb
end
end AM
end

section
set_option linter.all false
set_option maxRecDepth 100000
set_option maxHeartbeats 4000000
/-! AM, third part: weaker ends; calls. -/
namespace AM
open PySem L2

section
variable {S : Sto} {P P' : PV} (hP : ∀ v S, P v S → P' v S)
include hP
theorem inO_mono {neg : Bool} {x : Va} {k : Nat} {o : Ob} (h : inO S neg x k o P) : inO S neg x k o P' := by
  unfold inO at h ⊢
  split at h <;> (revert h; repeat' first | exact False.elim | exact hP _ _ | refine Exists.imp fun _ => ?_ | refine And.imp_right ?_)
theorem lenO_mono {o : Ob} (h : lenO o S P) : lenO o S P' := by
  unfold lenO at h ⊢
  split at h <;> (revert h; repeat' first | exact False.elim | exact hP _ _ | refine Exists.imp fun _ => ?_ | refine And.imp_right ?_)
theorem subO_mono {o : Ob} {y : Va} (h : subO o y S P) : subO o y S P' := by
  unfold subO at h ⊢
  split at h <;> (revert h; repeat' first | exact False.elim | exact hP _ _ | refine Exists.imp fun _ => ?_ | refine And.imp_right ?_)
theorem listO_mono {o : Ob} (h : listO o S P) : listO o S P' := by
  unfold listO at h ⊢
  split at h <;> (revert h; repeat' first | exact False.elim | exact hP _ _ | refine Exists.imp fun _ => ?_ | refine And.imp_right ?_)
theorem wCat_mono {x y : Va} (h : wCat x y S P) : wCat x y S P' := by
  unfold wCat at h ⊢
  (revert h; repeat' first | exact False.elim | exact hP _ _ | exact inO_mono hP | exact lenO_mono hP | exact subO_mono hP | exact listO_mono hP | exact fun q m a b => hP _ _ (q m a b) | exact fun q y ys i u a b c => hP _ _ (q y ys i u a b c) | refine Or.imp ?_ ?_ | refine Exists.imp fun _ => ?_ | refine And.imp_right ?_)
theorem wBin_mono {op : Bop} {x y : Va} (h : wBin op x y S P) : wBin op x y S P' := by
  unfold wBin at h ⊢
  split at h <;> first | exact h.elim | exact wCat_mono hP h | (revert h; repeat' first | exact False.elim | exact hP _ _ | exact inO_mono hP | exact lenO_mono hP | exact subO_mono hP | exact listO_mono hP | exact fun q m a b => hP _ _ (q m a b) | exact fun q y ys i u a b c => hP _ _ (q y ys i u a b c) | refine Or.imp ?_ ?_ | refine Exists.imp fun _ => ?_ | refine And.imp_right ?_)
theorem wNeg_mono {x : Va} (h : wNeg x S P) : wNeg x S P' := by
  unfold wNeg at h ⊢
  split at h <;> (revert h; repeat' first | exact False.elim | exact hP _ _ | exact inO_mono hP | exact lenO_mono hP | exact subO_mono hP | exact listO_mono hP | exact fun q m a b => hP _ _ (q m a b) | exact fun q y ys i u a b c => hP _ _ (q y ys i u a b c) | refine Or.imp ?_ ?_ | refine Exists.imp fun _ => ?_ | refine And.imp_right ?_)
theorem wCmp_mono {op : Cop} {x y : Va} (h : wCmp op x y S P) : wCmp op x y S P' := by
  unfold wCmp at h ⊢
  split at h
  all_goals first | exact h.elim | (rcases h with (⟨h1, h2⟩ | ⟨h1, h2⟩) | ⟨d, e, h1, h2, h3, h4, h5⟩; exact .inl (.inl ⟨h1, hP _ _ h2⟩); exact .inl (.inr ⟨h1, hP _ _ h2⟩); exact .inr ⟨d, e, h1, h2, h3, h4, hP _ _ h5⟩) | skip
  all_goals (revert h; repeat' first | exact False.elim | exact hP _ _ | exact inO_mono hP | exact lenO_mono hP | exact subO_mono hP | exact listO_mono hP | exact fun q m a b => hP _ _ (q m a b) | exact fun q y ys i u a b c => hP _ _ (q y ys i u a b c) | refine Or.imp ?_ ?_ | refine Exists.imp fun _ => ?_ | refine And.imp_right ?_)
theorem wLen_mono {x : Va} (h : wLen x S P) : wLen x S P' := by
  unfold wLen at h ⊢
  split at h <;> (revert h; repeat' first | exact False.elim | exact hP _ _ | exact inO_mono hP | exact lenO_mono hP | exact subO_mono hP | exact listO_mono hP | exact fun q m a b => hP _ _ (q m a b) | exact fun q y ys i u a b c => hP _ _ (q y ys i u a b c) | refine Or.imp ?_ ?_ | refine Exists.imp fun _ => ?_ | refine And.imp_right ?_)
theorem wAbs_mono {x : Va} (h : wAbs x S P) : wAbs x S P' := by
  unfold wAbs at h ⊢
  split at h <;> (revert h; repeat' first | exact False.elim | exact hP _ _ | exact inO_mono hP | exact lenO_mono hP | exact subO_mono hP | exact listO_mono hP | exact fun q m a b => hP _ _ (q m a b) | exact fun q y ys i u a b c => hP _ _ (q y ys i u a b c) | refine Or.imp ?_ ?_ | refine Exists.imp fun _ => ?_ | refine And.imp_right ?_)
theorem wSub_mono {x y : Va} (h : wSub x y S P) : wSub x y S P' := by
  unfold wSub at h ⊢
  split at h <;> (revert h; repeat' first | exact False.elim | exact hP _ _ | exact inO_mono hP | exact lenO_mono hP | exact subO_mono hP | exact listO_mono hP | exact fun q m a b => hP _ _ (q m a b) | exact fun q y ys i u a b c => hP _ _ (q y ys i u a b c) | refine Or.imp ?_ ?_ | refine Exists.imp fun _ => ?_ | refine And.imp_right ?_)
theorem wSlice_mono {x : Va} {lo hi : Option Int} (h : wSlice x lo hi S P) : wSlice x lo hi S P' := by
  unfold wSlice at h ⊢
  split at h <;> (revert h; repeat' first | exact False.elim | exact hP _ _ | exact inO_mono hP | exact lenO_mono hP | exact subO_mono hP | exact listO_mono hP | exact fun q m a b => hP _ _ (q m a b) | exact fun q y ys i u a b c => hP _ _ (q y ys i u a b c) | refine Or.imp ?_ ?_ | refine Exists.imp fun _ => ?_ | refine And.imp_right ?_)
theorem wBlt_mono {f : Bf} {vs : List Va} (h : wBlt f vs S P) : wBlt f vs S P' := by
  unfold wBlt at h ⊢
  split at h <;> (revert h; repeat' first | exact False.elim | exact hP _ _ | exact inO_mono hP | exact lenO_mono hP | exact subO_mono hP | exact listO_mono hP | exact fun q m a b => hP _ _ (q m a b) | exact fun q y ys i u a b c => hP _ _ (q y ys i u a b c) | refine Or.imp ?_ ?_ | refine Exists.imp fun _ => ?_ | refine And.imp_right ?_)
theorem wMth_mono {m : Mf} {o : Va} {vs : List Va} (h : wMth m o vs S P) : wMth m o vs S P' := by
  unfold wMth at h ⊢
  split at h <;> (revert h; repeat' first | exact False.elim | exact hP _ _ | exact inO_mono hP | exact lenO_mono hP | exact subO_mono hP | exact listO_mono hP | exact fun q m a b => hP _ _ (q m a b) | exact fun q y ys i u a b c => hP _ _ (q y ys i u a b c) | refine Or.imp ?_ ?_ | refine Exists.imp fun _ => ?_ | refine And.imp_right ?_)
end
section
variable {S : Sto} {P P' : PI_} (hP : ∀ xs G S, P xs G S → P' xs G S)
include hP
theorem wSeq_mono {x : Va} (h : wSeq x S P) : wSeq x S P' := by
  unfold wSeq at h ⊢
  split at h <;> (revert h; repeat' first | exact False.elim | exact hP _ _ _ | refine Exists.imp fun _ => ?_ | refine And.imp_right ?_)
theorem wLst_mono {x : Va} (h : wLst x S P) : wLst x S P' := by
  unfold wLst at h ⊢
  split at h <;> (revert h; repeat' first | exact False.elim | exact hP _ _ _ | refine Exists.imp fun _ => ?_ | refine And.imp_right ?_)
theorem wEn_mono {x : Va} (h : wEn x S P) : wEn x S P' := by
  unfold wEn at h ⊢
  split at h
  · exact hP _ _ _ h
  · exact wLst_mono hP h
end
theorem cpL_mono {bind : Va → Sto → Option Env} {t t' : Env → Sto → (Bool → Sto → Prop) → Prop} {e e' : Env → Sto → PV → Prop} {G : Sto → Prop} {d : Nat} {P P' : PV}
    (ht : ∀ Γ S P P', (∀ k S, P k S → P' k S) → t Γ S P → t' Γ S P') (he : ∀ Γ S (P P' : PV), (∀ v S, P v S → P' v S) → e Γ S P → e' Γ S P') (hP : ∀ v S, P v S → P' v S) :
    ∀ xs S, cpL bind t e G d P xs S → cpL bind t' e' G d P' xs S
  | [], S, h => hP _ _ h
  | x :: xs, S, ⟨Γ1, h1, h2⟩ => ⟨Γ1, h1, ht _ _ _ _ (fun b S2 q => by
      cases b with
      | true => exact he _ _ _ _ (fun v S3 ⟨acc, q1, q2, q3, q4⟩ => ⟨acc, q1, q2, q3, cpL_mono ht he hP xs _ q4⟩) q
      | false => exact ⟨q.1, cpL_mono ht he hP xs _ q.2⟩) h2⟩

/-- the same oracle with other runs, and with more functions known -/
abbrev Orc.up (C : Orc) (r : Str → List Va → Sto → PV → PX → Prop) (rc : Clo → Str → List Va → Sto → PV → PX → Prop) (fs : List Clo) : Orc := ⟨r, C.meth, C.noat, C.init, C.glob, C.isa, C.gdct, C.xk, C.cur, fs, rc⟩
structure OrcUp (C : Orc) (r : Str → List Va → Sto → PV → PX → Prop) (rc : Clo → Str → List Va → Sto → PV → PX → Prop) (fs : List Clo) : Prop where
  run : ∀ f vs S P P' E E', (∀ v S, P v S → P' v S) → (∀ x S, E x S → E' x S) → C.run f vs S P E → r f vs S P' E'
  runC : ∀ z f vs S P P' E E', (∀ v S, P v S → P' v S) → (∀ x S, E x S → E' x S) → C.runC z f vs S P E → rc z f vs S P' E'
  fns : ∀ z ∈ C.fns, z ∈ fs
abbrev OrcMono (C : Orc) : Prop := OrcUp C C.run C.runC C.fns
theorem xkAny_up {C : Orc} {r : Str → List Va → Sto → PV → PX → Prop} {rc : Clo → Str → List Va → Sto → PV → PX → Prop} {fs : List Clo} {c : Str} : ∀ {xs : List Str}, xkAny (C.up r rc fs) c xs = xkAny C c xs
  | [] => rfl
  | x :: xs => by
    have ih := xkAny_up (C := C) (r := r) (rc := rc) (fs := fs) (c := c) (xs := xs)
    simp only [xkAny, ih]
section
variable {C : Orc} {r : Str → List Va → Sto → PV → PX → Prop} {rc : Clo → Str → List Va → Sto → PV → PX → Prop} {fs : List Clo} (hC : OrcUp C r rc fs)
include hC
mutual
theorem W_mono : ∀ (m : Ex) (Γ : Env) (S : Sto) (P P' : PV) (E E' : PX), (∀ v S, P v S → P' v S) → (∀ x S, E x S → E' x S) → W C m Γ S P E → W (C.up r rc fs) m Γ S P' E'
  | .var i, Γ, S, P, P', E, E', hP, hE, ⟨v, e, q⟩ => ⟨v, e, hP _ _ q⟩
  | .int i, Γ, S, P, P', E, E', hP, hE, h => hP _ _ h
  | .bl b, Γ, S, P, P', E, E', hP, hE, h => hP _ _ h
  | .non, Γ, S, P, P', E, E', hP, hE, h => hP _ _ h
  | .str x, Γ, S, P, P', E, E', hP, hE, h => hP _ _ h
  | .glob x, Γ, S, P, P', E, E', hP, hE, ⟨v, e, h⟩ => ⟨v, e, hP _ _ h⟩
  | .tup es, Γ, S, P, P', E, E', hP, hE, h => WL_mono es Γ S _ _ E E' (fun vs S ⟨h1, h2⟩ => ⟨h1, hP _ _ h2⟩) hE h
  | .lst es, Γ, S, P, P', E, E', hP, hE, h => WL_mono es Γ S _ _ E E' (fun vs S ⟨h1, h2⟩ => ⟨h1, hP _ _ h2⟩) hE h
  | .bin op a b, Γ, S, P, P', E, E', hP, hE, h => W_mono a Γ S _ _ E E' (fun x S1 h1 => W_mono b Γ S1 _ _ E E' (fun y S2 h2 => wBin_mono hP h2) hE h1) hE h
  | .neg a, Γ, S, P, P', E, E', hP, hE, h => W_mono a Γ S _ _ E E' (fun x S1 h1 => wNeg_mono hP h1) hE h
  | .cmp op a b, Γ, S, P, P', E, E', hP, hE, h => W_mono a Γ S _ _ E E' (fun x S1 h1 => W_mono b Γ S1 _ _ E E' (fun y S2 h2 => wCmp_mono hP h2) hE h1) hE h
  | .isN a, Γ, S, P, P', E, E', hP, hE, h => W_mono a Γ S _ _ E E' (fun x S1 h1 => hP _ _ h1) hE h
  | .notN a, Γ, S, P, P', E, E', hP, hE, h => W_mono a Γ S _ _ E E' (fun x S1 h1 => hP _ _ h1) hE h
  | .sortk a q, Γ, S, P, P', E, E', hP, hE, h => W_mono a Γ S _ _ E E' (fun x S1 ⟨i, bs, k1, k2, k3, k4, k5, k6, k7⟩ => ⟨i, bs, k1, k2, k3, k4, k5, k6, hP _ _ k7⟩) hE h
  | .maxd a d, Γ, S, P, P', E, E', hP, hE, h => W_mono a Γ S _ _ E E' (fun x S1 h1 => W_mono d Γ S1 _ _ E E' (fun z S2 ⟨xs, ds, k1, k2, k3, k4, k5, k6⟩ => ⟨xs, ds, k1, k2, k3, k4, fun e => hP _ _ (k5 e), fun y ys i v e a b => hP _ _ (k6 y ys i v e a b)⟩) hE h1) hE h
  | .lrev a, Γ, S, P, P', E, E', hP, hE, h => W_mono a Γ S _ _ E E' (fun x S1 ⟨xs, h1, h2⟩ => ⟨xs, h1, hP _ _ h2⟩) hE h
  | .chain3 op op' op'' a b c d, Γ, S, P, P', E, E', hP, hE, h => W_mono a Γ S _ _ E E' (fun x S1 h1 => W_mono b Γ S1 _ _ E E' (fun y S2 h2 => wCmp_mono (fun z S3 ⟨k, e, h3⟩ => ⟨k, e, by
      cases k with
      | true => exact W_mono c Γ S3 _ _ E E' (fun u S4 h4 => wCmp_mono (fun z S5 ⟨k, e, h5⟩ => ⟨k, e, by
          cases k with
          | true => exact W_mono d Γ S5 _ _ E E' (fun v S6 h6 => wCmp_mono hP h6) hE h5
          | false => exact hP _ _ h5⟩) h4) hE h3
      | false => exact hP _ _ h3⟩) h2) hE h1) hE h
  | .chain op op' a b c, Γ, S, P, P', E, E', hP, hE, h => W_mono a Γ S _ _ E E' (fun x S1 h1 => W_mono b Γ S1 _ _ E E' (fun y S2 h2 => wCmp_mono (fun z S3 ⟨k, e, h3⟩ => ⟨k, e, by
      cases k with
      | true => exact W_mono c Γ S3 _ _ E E' (fun u S4 h4 => wCmp_mono hP h4) hE h3
      | false => exact hP _ _ h3⟩) h2) hE h1) hE h
  | .tst t, Γ, S, P, P', E, E', hP, hE, h => WB_mono t Γ S P P' E E' hP hE h
  | .ite t a b, Γ, S, P, P', E, E', hP, hE, h => WT_mono t Γ S _ _ E E' (fun k S1 h1 => by
      cases k with
      | true => exact W_mono a Γ S1 P P' E E' hP hE h1
      | false => exact W_mono b Γ S1 P P' E E' hP hE h1) hE h
  | .call f es, Γ, S, P, P', E, E', hP, hE, h => WL_mono es Γ S _ _ E E' (fun vs S h1 => hC.run _ _ _ _ _ _ _ hP hE h1) hE h
  | .len a, Γ, S, P, P', E, E', hP, hE, h => W_mono a Γ S _ _ E E' (fun x S1 h1 => wLen_mono hP h1) hE h
  | .abs a, Γ, S, P, P', E, E', hP, hE, h => W_mono a Γ S _ _ E E' (fun x S1 h1 => wAbs_mono hP h1) hE h
  | .isc a x, Γ, S, P, P', E, E', hP, hE, h => W_mono a Γ S _ _ E E' (fun v S1 ⟨k, h1, ob, h2, b, h3, h4⟩ => ⟨k, h1, ob, h2, b, h3, hP _ _ h4⟩) hE h
  | .isE a x, Γ, S, P, P', E, E', hP, hE, h => W_mono a Γ S _ _ E E' (fun v S1 ⟨k, h1, c, h2, b, h3, h4⟩ => ⟨k, h1, c, h2, b, h3, hP _ _ h4⟩) hE h
  | .isEt a x, Γ, S, P, P', E, E', hP, hE, h => W_mono a Γ S _ _ E E' (fun v S1 ⟨k, h1, c, h2, b, h3, h4⟩ => ⟨k, h1, c, h2, b, xkAny_up.trans h3, hP _ _ h4⟩) hE h
  | .isi a t, Γ, S, P, P', E, E', hP, hE, h => W_mono a Γ S _ _ E E' (fun x S1 ⟨b, h1, h2⟩ => ⟨b, h1, hP _ _ h2⟩) hE h
  | .sub a i, Γ, S, P, P', E, E', hP, hE, h => W_mono a Γ S _ _ E E' (fun x S1 h1 => W_mono i Γ S1 _ _ E E' (fun y S2 h2 => wSub_mono hP h2) hE h1) hE h
  | .slice a lo hi, Γ, S, P, P', E, E', hP, hE, h => W_mono a Γ S _ _ E E' (fun x S1 h1 => WOe_mono lo Γ S1 _ _ E E' (fun l S2 h2 => WOe_mono hi Γ S2 _ _ E E' (fun r S3 h3 => wSlice_mono hP h3) hE h2) hE h1) hE h
  | .blt f es, Γ, S, P, P', E, E', hP, hE, h => WL_mono es Γ S _ _ E E' (fun vs S1 h1 => wBlt_mono hP h1) hE h
  | .mth m o es, Γ, S, P, P', E, E', hP, hE, h => W_mono o Γ S _ _ E E' (fun x S1 ⟨h0, h1⟩ => ⟨h0, WL_mono es Γ S1 _ _ E E' (fun vs S2 h2 => wMth_mono hP h2) hE h1⟩) hE h
  | .comp own elt tg it cond, Γ, S, P, P', E, E', hP, hE, h => WI_mono it Γ S _ _ E E' (fun xs G S1 ⟨h0, h1⟩ => ⟨h0, cpL_mono (fun Γ S P P' hp q => WT0_mono cond Γ S P P' hp q) (fun Γ S P P' hp q => W_mono elt Γ S P P' _ _ hp (fun _ _ z => z) q) hP xs _ h1⟩) hE h
  | .fld o f, Γ, S, P, P', E, E', hP, hE, h => W_mono o Γ S _ _ E E' (fun x S1 ⟨k, e, ob, e2, v, e3, h1⟩ => ⟨k, e, ob, e2, v, e3, hP _ _ h1⟩) hE h
  | .mcall o m es, Γ, S, P, P', E, E', hP, hE, h => W_mono o Γ S _ _ E E' (fun x S1 ⟨k, e, ob, e2, v, e3, h1⟩ => ⟨k, e, ob, e2, v, e3, WL_mono es Γ S1 _ _ E E' (fun vs S2 h2 => hC.run _ _ _ _ _ _ _ hP hE h2) hE h1⟩) hE h
  | .make c es, Γ, S, P, P', E, E', hP, hE, ⟨key, e1, h⟩ => ⟨key, e1, WL_mono es Γ S _ _ E E' (fun vs S1 h2 => hC.run _ _ _ _ _ _ _ (fun v S2 ⟨e3, h3⟩ => ⟨e3, hP _ _ h3⟩) hE h2) hE h⟩
  | .make0 c, Γ, S, P, P', E, E', hP, hE, ⟨e1, h⟩ => ⟨e1, hP _ _ h⟩
  | .dsp es, Γ, S, P, P', E, E', hP, hE, h => WL_mono es Γ _ _ _ E E' (fun vs S1 ⟨kvs, e1, e2, e3, h1⟩ => ⟨kvs, e1, e2, e3, hP _ _ h1⟩) hE h
  | .get1 o k, Γ, S, P, P', E, E', hP, hE, h => W_mono o Γ S _ _ E E' (fun x S1 ⟨h0, h1⟩ => ⟨h0, W_mono k Γ S1 _ _ E E' (fun y S2 ⟨kvs, e1, kk, e2, h2⟩ => ⟨kvs, e1, kk, e2, hP _ _ h2⟩) hE h1⟩) hE h
  | .get2 o k d, Γ, S, P, P', E, E', hP, hE, h => W_mono o Γ S _ _ E E' (fun x S1 ⟨h0, h1⟩ => ⟨h0, W_mono k Γ S1 _ _ E E' (fun y S2 h2 => W_mono d Γ S2 _ _ E E' (fun z S3 ⟨kvs, e1, kk, e2, h3⟩ => ⟨kvs, e1, kk, e2, hP _ _ h3⟩) hE h2) hE h1⟩) hE h
  | .gget x k d, Γ, S, P, P', E, E', hP, hE, ⟨l, e, h⟩ => ⟨l, e, W_mono k Γ S _ _ E E' (fun y S1 h1 => W_mono d Γ S1 _ _ E E' (fun z S2 ⟨s, e1, o, e2, h3⟩ => ⟨s, e1, o, e2, hP _ _ h3⟩) hE h1) hE h⟩
  | .dpop1 o k, Γ, S, P, P', E, E', hP, hE, h => W_mono o Γ S _ _ E E' (fun x S1 ⟨h0, h1⟩ => ⟨h0, W_mono k Γ S1 _ _ E E' (fun y S2 ⟨n, e0, kvs, e1, kk, e2, v, e3, h2⟩ => ⟨n, e0, kvs, e1, kk, e2, v, e3, hP _ _ h2⟩) hE h1⟩) hE h
  | .evens a, Γ, S, P, P', E, E', hP, hE, h => W_mono a Γ S _ _ E E' (fun x S1 ⟨xs, h1, h2⟩ => ⟨xs, h1, hP _ _ h2⟩) hE h
  | .callv i es, Γ, S, P, P', E, E', hP, hE, ⟨z, ws, h0, h1, h⟩ => ⟨z, ws, h0, hC.fns _ h1, WL_mono es Γ S _ _ E E' (fun vs S1 h2 => hC.run _ _ _ _ _ _ _ hP hE h2) hE h⟩
  | .callc f es id q js, Γ, S, P, P', E, E', hP, hE, ⟨ws, h0, h⟩ => ⟨ws, h0, WL_mono es Γ S _ _ E E' (fun vs S1 ⟨h1, h2⟩ => ⟨h1, fun z hz => hC.runC _ _ _ _ _ _ _ _ hP hE (h2 z hz)⟩) hE h⟩
  | .mcallc o m es id q js, Γ, S, P, P', E, E', hP, hE, ⟨ws, h0, h⟩ => ⟨ws, h0, W_mono o Γ S _ _ E E' (fun x S1 ⟨k, e, ob, e2, v, e3, h1⟩ => ⟨k, e, ob, e2, v, e3, WL_mono es Γ S1 _ _ E E' (fun vs S2 ⟨h2, h3⟩ => ⟨h2, fun z hz => hC.runC _ _ _ _ _ _ _ _ hP hE (h3 z hz)⟩) hE h1⟩) hE h⟩
  | .lck e, Γ, S, P, P', E, E', hP, hE, ⟨k, kvs, h1, h⟩ => ⟨k, kvs, h1, W_mono e Γ _ _ _ _ _ (fun v S1 ⟨h2, h3⟩ => ⟨h2, hP _ _ h3⟩) (fun _ _ z => z) h⟩
  | .dpop2 o k d, Γ, S, P, P', E, E', hP, hE, h => W_mono o Γ S _ _ E E' (fun x S1 ⟨h0, h1⟩ => ⟨h0, W_mono k Γ S1 _ _ E E' (fun y S2 h2 => W_mono d Γ S2 _ _ E E' (fun z S3 ⟨n, e0, kvs, e1, kk, e2, h3⟩ => ⟨n, e0, kvs, e1, kk, e2, h3.elim (fun ⟨v, e3, h4⟩ => .inl ⟨v, e3, hP _ _ h4⟩) (fun ⟨e3, h4⟩ => .inr ⟨e3, hP _ _ h4⟩)⟩) hE h2) hE h1⟩) hE h
theorem WOe_mono : ∀ (m : Oe) (Γ : Env) (S : Sto) (P P' : Option Int → Sto → Prop) (E E' : PX), (∀ v S, P v S → P' v S) → (∀ x S, E x S → E' x S) → WOe C m Γ S P E → WOe (C.up r rc fs) m Γ S P' E'
  | .none, Γ, S, P, P', E, E', hP, hE, h => hP _ _ h
  | .some e, Γ, S, P, P', E, E', hP, hE, h => W_mono e Γ S _ _ E E' (fun v S1 ⟨i, e1, h1⟩ => ⟨i, e1, hP _ _ h1⟩) hE h
theorem WI_mono : ∀ (m : It) (Γ : Env) (S : Sto) (P P' : PI_) (E E' : PX), (∀ xs G S, P xs G S → P' xs G S) → (∀ x S, E x S → E' x S) → WI C m Γ S P E → WI (C.up r rc fs) m Γ S P' E'
  | .seq e, Γ, S, P, P', E, E', hP, hE, h => W_mono e Γ S _ _ E E' (fun v S1 h1 => wSeq_mono hP h1) hE h
  | .range1 a, Γ, S, P, P', E, E', hP, hE, h => W_mono a Γ S _ _ E E' (fun v S1 ⟨i, e1, h1, h2, h3⟩ => ⟨i, e1, h1, h2, hP _ _ _ h3⟩) hE h
  | .range2 a b, Γ, S, P, P', E, E', hP, hE, h => W_mono a Γ S _ _ E E' (fun v S1 h1 => W_mono b Γ S1 _ _ E E' (fun u S2 ⟨i, e1, j, e2, h2, h3⟩ => ⟨i, e1, j, e2, h2, hP _ _ _ h3⟩) hE h1) hE h
  | .enum e, Γ, S, P, P', E, E', hP, hE, h => W_mono e Γ S _ _ E E' (fun v S1 h1 => wEn_mono (fun _ _ _ z => hP _ _ _ z) h1) hE h
  | .zip a b, Γ, S, P, P', E, E', hP, hE, h => W_mono a Γ S _ _ E E' (fun v S1 h1 => W_mono b Γ S1 _ _ E E' (fun u S2 h2 => wLst_mono (fun _ _ _ z => wLst_mono (fun _ _ _ z => hP _ _ _ z) z) h2) hE h1) hE h
  | .rev e, Γ, S, P, P', E, E', hP, hE, h => W_mono e Γ S _ _ E E' (fun v S1 h1 => wLst_mono (fun _ _ _ z => hP _ _ _ z) h1) hE h
  | .revr a, Γ, S, P, P', E, E', hP, hE, h => W_mono a Γ S _ _ E E' (fun v S1 ⟨i, e1, h1, h3⟩ => ⟨i, e1, h1, hP _ _ _ h3⟩) hE h
  | .rangeD a b, Γ, S, P, P', E, E', hP, hE, h => W_mono a Γ S _ _ E E' (fun v S1 h1 => W_mono b Γ S1 _ _ E E' (fun u S2 ⟨i, e1, j, e2, h2, h3⟩ => ⟨i, e1, j, e2, h2, hP _ _ _ h3⟩) hE h1) hE h
  | .keys e, Γ, S, P, P', E, E', hP, hE, h => W_mono e Γ S _ _ E E' (fun v S1 ⟨k, h1, kvs, h2, h3⟩ => ⟨k, h1, kvs, h2, hP _ _ _ h3⟩) hE h
  | .items e, Γ, S, P, P', E, E', hP, hE, h => W_mono e Γ S _ _ E E' (fun v S1 ⟨k, h1, kvs, h2, h3⟩ => ⟨k, h1, kvs, h2, hP _ _ _ h3⟩) hE h
theorem WT0_mono : ∀ (m : Tes0) (Γ : Env) (S : Sto) (P P' : Bool → Sto → Prop), (∀ v S, P v S → P' v S) → WT0 C m Γ S P → WT0 (C.up r rc fs) m Γ S P'
  | .none, Γ, S, P, P', hP, h => hP _ _ h
  | .some t, Γ, S, P, P', hP, h => WT_mono t Γ S _ _ _ _ hP (fun _ _ z => z) h
theorem WT_mono : ∀ (m : Te) (Γ : Env) (S : Sto) (P P' : Bool → Sto → Prop) (E E' : PX), (∀ v S, P v S → P' v S) → (∀ x S, E x S → E' x S) → WT C m Γ S P E → WT (C.up r rc fs) m Γ S P' E'
  | .val e, Γ, S, P, P', E, E', hP, hE, h => W_mono e Γ S _ _ E E' (fun v S1 ⟨b, h1, h2⟩ => ⟨b, h1, hP _ _ h2⟩) hE h
  | .not t, Γ, S, P, P', E, E', hP, hE, h => WT_mono t Γ S _ _ E E' (fun v S1 h1 => hP _ _ h1) hE h
  | .and ts, Γ, S, P, P', E, E', hP, hE, h => WA_mono ts Γ S _ _ E E' hP hE h
  | .or ts, Γ, S, P, P', E, E', hP, hE, h => WO_mono ts Γ S _ _ E E' hP hE h
theorem WA_mono : ∀ (m : Tes) (Γ : Env) (S : Sto) (P P' : Bool → Sto → Prop) (E E' : PX), (∀ v S, P v S → P' v S) → (∀ x S, E x S → E' x S) → WA C m Γ S P E → WA (C.up r rc fs) m Γ S P' E'
  | .one t, Γ, S, P, P', E, E', hP, hE, h => WT_mono t Γ S _ _ E E' hP hE h
  | .cons t ts, Γ, S, P, P', E, E', hP, hE, h => WT_mono t Γ S _ _ E E' (fun k S1 h1 => by
      cases k with
      | true => exact WA_mono ts Γ S1 P P' E E' hP hE h1
      | false => exact hP _ _ h1) hE h
theorem WO_mono : ∀ (m : Tes) (Γ : Env) (S : Sto) (P P' : Bool → Sto → Prop) (E E' : PX), (∀ v S, P v S → P' v S) → (∀ x S, E x S → E' x S) → WO C m Γ S P E → WO (C.up r rc fs) m Γ S P' E'
  | .one t, Γ, S, P, P', E, E', hP, hE, h => WT_mono t Γ S _ _ E E' hP hE h
  | .cons t ts, Γ, S, P, P', E, E', hP, hE, h => WT_mono t Γ S _ _ E E' (fun k S1 h1 => by
      cases k with
      | false => exact WO_mono ts Γ S1 P P' E E' hP hE h1
      | true => exact hP _ _ h1) hE h
theorem WB_mono : ∀ (m : Te) (Γ : Env) (S : Sto) (P P' : PV) (E E' : PX), (∀ v S, P v S → P' v S) → (∀ x S, E x S → E' x S) → WB C m Γ S P E → WB (C.up r rc fs) m Γ S P' E'
  | .val e, Γ, S, P, P', E, E', hP, hE, h => W_mono e Γ S _ _ E E' hP hE h
  | .not t, Γ, S, P, P', E, E', hP, hE, h => WB_mono t Γ S _ _ E E' (fun v S1 ⟨b, e, h1⟩ => ⟨b, e, hP _ _ h1⟩) hE h
  | .and ts, Γ, S, P, P', E, E', hP, hE, h => WBA_mono ts Γ S _ _ E E' hP hE h
  | .or ts, Γ, S, P, P', E, E', hP, hE, h => WBO_mono ts Γ S _ _ E E' hP hE h
theorem WBA_mono : ∀ (m : Tes) (Γ : Env) (S : Sto) (P P' : PV) (E E' : PX), (∀ v S, P v S → P' v S) → (∀ x S, E x S → E' x S) → WBA C m Γ S P E → WBA (C.up r rc fs) m Γ S P' E'
  | .one t, Γ, S, P, P', E, E', hP, hE, h => WB_mono t Γ S _ _ E E' hP hE h
  | .cons t ts, Γ, S, P, P', E, E', hP, hE, h => WB_mono t Γ S _ _ E E' (fun k S1 ⟨b, e, h1⟩ => ⟨b, e, by
      cases b with
      | true => exact WBA_mono ts Γ S1 P P' E E' hP hE h1
      | false => exact hP _ _ h1⟩) hE h
theorem WBO_mono : ∀ (m : Tes) (Γ : Env) (S : Sto) (P P' : PV) (E E' : PX), (∀ v S, P v S → P' v S) → (∀ x S, E x S → E' x S) → WBO C m Γ S P E → WBO (C.up r rc fs) m Γ S P' E'
  | .one t, Γ, S, P, P', E, E', hP, hE, h => WB_mono t Γ S _ _ E E' hP hE h
  | .cons t ts, Γ, S, P, P', E, E', hP, hE, h => WB_mono t Γ S _ _ E E' (fun k S1 ⟨b, e, h1⟩ => ⟨b, e, by
      cases b with
      | false => exact WBO_mono ts Γ S1 P P' E E' hP hE h1
      | true => exact hP _ _ h1⟩) hE h
theorem WL_mono : ∀ (m : Exs) (Γ : Env) (S : Sto) (P P' : PL) (E E' : PX), (∀ v S, P v S → P' v S) → (∀ x S, E x S → E' x S) → WL C m Γ S P E → WL (C.up r rc fs) m Γ S P' E'
  | .nil, Γ, S, P, P', E, E', hP, hE, h => hP _ _ h
  | .cons e es, Γ, S, P, P', E, E', hP, hE, h => W_mono e Γ S _ _ E E' (fun v S1 h1 => WL_mono es Γ S1 _ _ E E' (fun vs S2 h2 => hP _ _ h2) hE h1) hE h
end

structure DMono (D D' : AEnds) : Prop where
  nx : ∀ Γ S, D.nx Γ S → D'.nx Γ S
  rt : ∀ v S, D.rt v S → D'.rt v S
  bk : ∀ Γ S, D.bk Γ S → D'.bk Γ S
  ct : ∀ Γ S, D.ct Γ S → D'.ct Γ S
  ex : ∀ x Γ S, D.ex x Γ S → D'.ex x Γ S

omit hC in
theorem whN_mono {t t' : Env → Sto → (Bool → Sto → Prop) → Prop} {b b' : PE_ → Env → Sto → Prop} {nx nx' : PE_}
    (ht : ∀ Γ S P P', (∀ k S, P k S → P' k S) → t Γ S P → t' Γ S P') (hb : ∀ Γ S (N N' : PE_), (∀ Γ S, N Γ S → N' Γ S) → b N Γ S → b' N' Γ S) (hn : ∀ Γ S, nx Γ S → nx' Γ S) :
    ∀ n Γ S, whN t b nx n Γ S → whN t' b' nx' n Γ S
  | 0, _, _, h => h.elim
  | n + 1, Γ, S, h => ht Γ S _ _ (fun k S1 h1 => by
      cases k with
      | true => exact hb Γ S1 _ _ (fun Γ2 S2 h2 => whN_mono ht hb hn n Γ2 S2 h2) h1
      | false => exact hn _ _ h1) h
omit hC in
theorem frL_mono {bind : Va → Env → Sto → Option Env} {b b' : PE_ → Env → Sto → Prop} {G : Sto → Prop} {nx nx' : PE_}
    (hb : ∀ Γ S (N N' : PE_), (∀ Γ S, N Γ S → N' Γ S) → b N Γ S → b' N' Γ S) (hn : ∀ Γ S, nx Γ S → nx' Γ S) : ∀ xs Γ S, frL bind b G nx xs Γ S → frL bind b' G nx' xs Γ S
  | [], Γ, S, h => hn _ _ h
  | x :: xs, Γ, S, ⟨Γ1, h1, h2⟩ => ⟨Γ1, h1, hb _ _ _ _ (fun Γ' S' ⟨q1, q2⟩ => ⟨q1, frL_mono hb hn xs Γ' S' q2⟩) h2⟩
end
mutual
theorem WS_mono {C : Orc} {r : Str → List Va → Sto → PV → PX → Prop} {rc : Clo → Str → List Va → Sto → PV → PX → Prop} {fs : List Clo} (hC : OrcUp C r rc fs) : ∀ (m : Sm) (D D' : AEnds) (Γ : Env) (S : Sto), DMono D D' → WS C m D Γ S → WS (C.up r rc fs) m D' Γ S
  | .set i e, D, D', Γ, S, d, h => W_mono hC e Γ S _ _ _ _ (fun v S1 h1 => d.nx _ _ h1) (fun x S1 h1 => d.ex _ _ _ h1) h
  | .ret e, D, D', Γ, S, d, h => W_mono hC e Γ S _ _ _ _ d.rt (fun x S1 h1 => d.ex _ _ _ h1) h
  | .retN, D, D', Γ, S, d, h => d.rt _ _ h
  | .pass, D, D', Γ, S, d, h => d.nx _ _ h
  | .brk, D, D', Γ, S, d, h => d.bk _ _ h
  | .cont, D, D', Γ, S, d, h => d.ct _ _ h
  | .drop e, D, D', Γ, S, d, h => W_mono hC e Γ S _ _ _ _ (fun v S1 h1 => d.nx _ _ h1) (fun x S1 h1 => d.ex _ _ _ h1) h
  | .ite t a b, D, D', Γ, S, d, h => WT_mono hC t Γ S _ _ _ _ (fun k S1 h1 => by
      cases k with
      | true => exact WSs_mono hC a D D' Γ S1 d h1
      | false => exact WSs_mono hC b D D' Γ S1 d h1) (fun x S1 h1 => d.ex _ _ _ h1) h
  | .whil t b, D, D', Γ, S, d, ⟨n, h⟩ => ⟨n, whN_mono (fun Γ S P P' hp q => WT_mono hC t Γ S P P' _ _ hp (fun x S1 h1 => d.ex _ _ _ h1) q)
      (fun Γ S N N' hN q => WSs_mono hC b { D with nx := N, ct := N, bk := D.nx } { D' with nx := N', ct := N', bk := D'.nx } Γ S ⟨hN, d.rt, d.nx, hN, d.ex⟩ q) d.nx n Γ S h⟩
  | .raise x, D, D', Γ, S, d, h => d.ex _ _ _ h
  | .asg tg e, D, D', Γ, S, d, h => W_mono hC e Γ S _ _ _ _ (fun v S1 ⟨Γ1, e1, h1⟩ => ⟨Γ1, e1, d.nx _ _ h1⟩) (fun x S1 h1 => d.ex _ _ _ h1) h
  | .setSub o i e, D, D', Γ, S, d, h => W_mono hC e Γ S _ _ _ _ (fun v S1 h1 => W_mono hC o Γ S1 _ _ _ _ (fun x S2 h2 => W_mono hC i Γ S2 _ _ _ _ (fun y S3 ⟨k, e1, ob, e2, ob', e3, h3⟩ => ⟨k, e1, ob, e2, ob', e3, d.nx _ _ h3⟩) (fun x S1 h1 => d.ex _ _ _ h1) h2) (fun x S1 h1 => d.ex _ _ _ h1) h1) (fun x S1 h1 => d.ex _ _ _ h1) h
  | .aug i op e, D, D', Γ, S, d, ⟨x, hx, h⟩ => ⟨x, hx, W_mono hC e Γ S _ _ _ _ (fun y S1 ⟨n, e1, m, e2, r, h1, h2⟩ => ⟨n, e1, m, e2, r, h1, d.nx _ _ h2⟩) (fun x S1 h1 => d.ex _ _ _ h1) h⟩
  | .setC i own elt tg it cond, D, D', Γ, S, d, h => WI_mono hC it Γ S _ _ _ _ (fun xs G S1 ⟨h0, h1⟩ => ⟨h0, cpL_mono (fun Γ S P P' hp q => WT0_mono hC cond Γ S P P' hp q) (fun Γ S P P' hp q => W_mono hC elt Γ S P P' _ _ hp (fun _ _ z => z) q) (fun v S2 z => d.nx _ _ z) xs _ h1⟩) (fun x S1 h1 => d.ex _ _ _ h1) h
  | .for_ tg it b, D, D', Γ, S, d, h => WI_mono hC it Γ S _ _ _ _ (fun xs G S1 ⟨h0, h1⟩ => ⟨h0, frL_mono (fun Γ S N N' hN q => WSs_mono hC b { D with nx := N, ct := N, bk := D.nx } { D' with nx := N', ct := N', bk := D'.nx } Γ S ⟨hN, d.rt, d.nx, hN, d.ex⟩ q) d.nx xs _ _ h1⟩) (fun x S1 h1 => d.ex _ _ _ h1) h
  | .setFld o f e, D, D', Γ, S, d, h => W_mono hC e Γ S _ _ _ _ (fun v S1 h1 => W_mono hC o Γ S1 _ _ _ _ (fun x S2 ⟨k, e1, ob, e2, ob', e3, h2⟩ => ⟨k, e1, ob, e2, ob', e3, d.nx _ _ h2⟩) (fun x S1 h1 => d.ex _ _ _ h1) h1) (fun x S1 h1 => d.ex _ _ _ h1) h
  | .augFld o f op e, D, D', Γ, S, d, ⟨h0, h⟩ => ⟨h0, W_mono hC o Γ S _ _ _ _ (fun x S1 ⟨k, e1, ob, e2, u, e3, h1⟩ => ⟨k, e1, ob, e2, u, e3, W_mono hC e Γ S1 _ _ _ _ (fun y S2 ⟨n, e4, m, e5, ob2, e6, e7, ob', e8, h2⟩ => ⟨n, e4, m, e5, ob2, e6, e7, ob', e8, d.nx _ _ h2⟩) (fun x S1 h1 => d.ex _ _ _ h1) h1⟩) (fun x S1 h1 => d.ex _ _ _ h1) h⟩
  | .lck s, D, D', Γ, S, d, ⟨k, kvs, h1, h⟩ => ⟨k, kvs, h1, WS_mono hC s (lckD k kvs D) (lckD k kvs D') Γ _ ⟨fun _ _ z => ⟨z.1, d.nx _ _ z.2⟩, fun _ _ z => ⟨z.1, d.rt _ _ z.2⟩, fun _ _ z => ⟨z.1, d.bk _ _ z.2⟩, fun _ _ z => ⟨z.1, d.ct _ _ z.2⟩, fun _ _ _ z => z⟩ h⟩
  | .try_ b x o su, D, D', Γ, S, d, h => WSs_mono hC b { D with ex := fun c Γ' S' => ∃ kk, C.xk c x = some kk ∧ if kk = true then ∀ a, WSs { C with cur := some (a, c) } su (offD o D) (onE o a Γ') S' else D.ex c Γ' S' } { D' with ex := fun c Γ' S' => ∃ kk, C.xk c x = some kk ∧ if kk = true then ∀ a, WSs { C.up r rc fs with cur := some (a, c) } su (offD o D') (onE o a Γ') S' else D'.ex c Γ' S' } Γ S ⟨d.nx, d.rt, d.bk, d.ct, fun c Γ' S' ⟨kk, h1, h2⟩ => ⟨kk, h1, by
      cases kk with
      | true => exact fun a => WSs_mono (C := { C with cur := some (a, c) }) (r := r) (rc := rc) (fs := fs) ⟨hC.run, hC.runC, hC.fns⟩ su (offD o D) (offD o D') _ _ ⟨fun _ _ z => d.nx _ _ z, d.rt, fun _ _ z => d.bk _ _ z, fun _ _ z => d.ct _ _ z, fun _ _ _ z => z⟩ (h2 a)
      | false => exact d.ex _ _ _ h2⟩⟩ h
theorem WSs_mono {C : Orc} {r : Str → List Va → Sto → PV → PX → Prop} {rc : Clo → Str → List Va → Sto → PV → PX → Prop} {fs : List Clo} (hC : OrcUp C r rc fs) : ∀ (m : Sms) (D D' : AEnds) (Γ : Env) (S : Sto), DMono D D' → WSs C m D Γ S → WSs (C.up r rc fs) m D' Γ S
  | .nil, D, D', Γ, S, d, h => d.nx _ _ h
  | .cons s ss, D, D', Γ, S, d, h => WS_mono hC s { D with nx := fun Γ S => WSs C ss D Γ S } { D' with nx := fun Γ S => WSs (C.up r rc fs) ss D' Γ S } Γ S ⟨fun Γ1 S1 h1 => WSs_mono hC ss D D' Γ1 S1 d h1, d.rt, d.bk, d.ct, d.ex⟩ h
end

/-! ### calls -/
section
variable (S : Sto) (n : Nat)
mutual
/-- v' is v, with the store's objects from n on taken as they are for good -/
def Fz : Va → Va → Prop
  | v, .non => v = .non
  | v, .bl b => v = .bl b
  | v, .int i => v = .int i
  | v, .str x => v = .str x
  | v, .tup ys => ∃ xs, v = .tup xs ∧ Fzs xs ys
  | v, .lst ys => ∃ xs, (v = .lst xs ∨ ∃ k, v = .loc k ∧ n ≤ k ∧ S[k]? = some (.lst xs)) ∧ Fzs xs ys
  | v, .dct ys => ∃ xs, (v = .dct xs ∨ ∃ k, v = .loc k ∧ n ≤ k ∧ S[k]? = some (.dct xs)) ∧ Fzk xs ys
  | v, .loc k => v = .loc k ∧ k < n
  | v, .scr ns => v = .scr ns
  | v, .exc a => v = .exc a
  | v, .fnv z ys => ∃ xs, v = .fnv z xs ∧ Fzs xs ys
def Fzs : List Va → List Va → Prop
  | vs, [] => vs = []
  | vs, y :: ys => ∃ x xs, vs = x :: xs ∧ Fz x y ∧ Fzs xs ys
def Fzk : List (Key × Va) → List (Key × Va) → Prop
  | vs, [] => vs = []
  | vs, (k, y) :: ys => ∃ x xs, vs = (k, x) :: xs ∧ Fz x y ∧ Fzk xs ys
end
end
section
variable (n : Nat)
mutual
/-- all places of the store in v are below n -/
def Cl : Va → Prop
  | .tup xs => Cls_ xs
  | .lst xs => Cls_ xs
  | .dct xs => Clk xs
  | .loc k => k < n
  | .non => True
  | .bl _ => True
  | .int _ => True
  | .str _ => True
  | .scr _ => True
  | .exc _ => True
  | .fnv _ xs => Cls_ xs
def Cls_ : List Va → Prop
  | [] => True
  | x :: xs => Cl x ∧ Cls_ xs
def Clk : List (Key × Va) → Prop
  | [] => True
  | (_, x) :: xs => Cl x ∧ Clk xs
end
def Clf : List (Str × Va) → Prop
  | [] => True
  | (_, x) :: xs => Cl n x ∧ Clf xs
def ClO : Ob → Prop
  | .lst xs => Cls_ n xs
  | .dct xs => Clk n xs
  | .ins _ fs => Clf n fs
  | .dead => True
  | .lok xs => Clk n xs
  | .tab _ => True
end
/-- S'': the first objects of S', which don't lean on later ones -/
def Cut (S S' S'' : Sto) : Prop := S'' = S' ∨ (S'' = S'.take S.length ∧ S.length ≤ S'.length ∧ ∀ (i : Nat) (o : Ob), i < S.length → S'[i]? = some o → S[i]? = some o ∨ ClO S.length o)
def Shed (S : Sto) (v : Va) (S' : Sto) (v' : Va) (S'' : Sto) : Prop :=
  (v' = v ∧ S'' = S') ∨ ((S'' = S'.take S.length ∧ S.length ≤ S'.length ∧ ∀ (i : Nat) (o : Ob), i < S.length → S'[i]? = some o → S[i]? = some o ∨ ClO S.length o) ∧ Fz S' S.length v v')

/-- the defs (methods as "C.m"), the classes' methods, fields, makers, the constants -/
structure Tab where
  fns : List (Str × Fn)
  mt : List (Str × Str × Str) := []
  na : List (Str × Str) := []
  it : List (Str × Option Str) := []
  gb : List (Str × Va) := []
  ia : List (Str × Str × Bool) := []
  gd : List (Str × List (Str × Option Va)) := []
  xk : List (Str × Str × Bool) := []
  cl : List Clo := []
def Tab.fn (T : Tab) (x : Str) : Option Fn := T.fns.lookup x
instance : CoeFun Tab (fun _ => Str → Option Fn) := ⟨Tab.fn⟩
def Tab.meth (T : Tab) (c m : Str) : Option Str := (T.mt.find? fun p => decide (p.1 = c) && decide (p.2.1 = m)).map (·.2.2)
def Tab.noat (T : Tab) (c f : Str) : Bool := T.na.any fun p => decide (p.1 = c) && decide (p.2 = f)
def Tab.init (T : Tab) (c : Str) : Option (Option Str) := T.it.lookup c
def Tab.glob (T : Tab) (x : Str) : Option Va := T.gb.lookup x
def Tab.isa (T : Tab) (c x : Str) : Option Bool := (T.ia.find? fun p => decide (p.1 = c) && decide (p.2.1 = x)).map (·.2.2)
def Tab.gdct (T : Tab) (x : Str) : Option (List (Str × Option Va)) := T.gd.lookup x
def Tab.xkf (T : Tab) (c x : Str) : Option Bool := (T.xk.find? fun p => decide (p.1 = c) && decide (p.2.1 = x)).map (·.2.2)
def startA (N : List Str) (as : List Va) : Env := as.map some ++ List.replicate (N.length - as.length) none
def fin (S : Sto) (P : PV) : PV := fun v S' => ∃ v' S'', Shed S v S' v' S'' ∧ P v' S''
def finX (S : Sto) (E : PX) : PX := fun x S' => ∃ S'', Cut S S' S'' ∧ E x S''
/-- one function more is known -/
def Tab.add (T : Tab) (z : Clo) : Tab := { T with cl := z :: T.cl }
def call : Tab → Nat → Str → List Va → Sto → PV → PX → Prop
  | _, 0, _, _, _, _, _ => False
  | T, k + 1, f, as, S, P, E => ∃ d, T.fn f = some d ∧ as.length = d.ps.length ∧
      WSs ⟨call T k, T.meth, T.noat, T.init, T.glob, T.isa, T.gdct, T.xkf, none, T.cl, fun z => call (T.add z) k⟩ d.body { nx := fun _ S' => fin S P .non S', rt := fin S P, ex := fun x _ S' => finX S E x S' } (startA d.N as) S
def orc (T : Tab) (k : Nat) : Orc := ⟨call T k, T.meth, T.noat, T.init, T.glob, T.isa, T.gdct, T.xkf, none, T.cl, fun z => call (T.add z) k⟩
def orcE (T : Tab) (k : Nat) (cur : Option (PySem.Addr × Str)) : Orc := ⟨call T k, T.meth, T.noat, T.init, T.glob, T.isa, T.gdct, T.xkf, cur, T.cl, fun z => call (T.add z) k⟩
theorem fin_up {S : Sto} {P P' : PV} (hP : ∀ v S, P v S → P' v S) : ∀ v S', fin S P v S' → fin S P' v S' := fun v S' ⟨v', S'', q, p⟩ => ⟨v', S'', q, hP _ _ p⟩
theorem finX_up {S : Sto} {E E' : PX} (hE : ∀ v S, E v S → E' v S) : ∀ v S', finX S E v S' → finX S E' v S' := fun v S' ⟨S'', q, p⟩ => ⟨S'', q, hE _ _ p⟩
/-- with more functions known, and weaker ends -/
theorem call_up : ∀ (k : Nat) (T : Tab) (fs : List Clo), (∀ z ∈ T.cl, z ∈ fs) → ∀ f vs S P P' E E', (∀ v S, P v S → P' v S) → (∀ x S, E x S → E' x S) → call T k f vs S P E → call { T with cl := fs } k f vs S P' E'
  | 0, _, _, _, _, _, _, _, _, _, _, _, _, h => h.elim
  | k + 1, T, fs, hs, f, vs, S, P, P', E, E', hP, hE, ⟨d, h1, h2, h⟩ => by
    refine ⟨d, h1, h2, ?_⟩
    have U : OrcUp (orc T k) (call { T with cl := fs } k) (fun z => call ({ T with cl := fs }.add z) k) fs := ⟨fun f vs S P P' E E' => call_up k T fs hs f vs S P P' E E', fun z f vs S P P' E E' => call_up k (T.add z) (z :: fs) (fun y hy => by
      rcases List.mem_cons.mp hy with e | hy
      · rw [e]; exact List.mem_cons_self
      · exact List.mem_cons_of_mem _ (hs y hy)) f vs S P P' E E', hs⟩
    exact WSs_mono U d.body { nx := fun _ S' => fin S P .non S', rt := fin S P, ex := fun x _ S' => finX S E x S' } { nx := fun _ S' => fin S P' .non S', rt := fin S P', ex := fun x _ S' => finX S E' x S' } _ _ ⟨fun _ _ q => fin_up hP _ _ q, fin_up hP, fun _ _ q => q, fun _ _ q => q, fun x _ S' q => finX_up hE _ _ q⟩ h
theorem call_add {T : Tab} {k : Nat} {z : Clo} {f : Str} {vs : List Va} {S : Sto} {P : PV} {E : PX} (h : call T k f vs S P E) : call (T.add z) k f vs S P E := call_up k T (z :: T.cl) (fun y hy => List.mem_cons_of_mem _ hy) f vs S P P E E (fun _ _ q => q) (fun _ _ q => q) h
theorem call_mono (T : Tab) (k : Nat) : OrcMono (orc T k) := ⟨call_up k T T.cl (fun _ h => h), fun z => call_up k (T.add z) (T.add z).cl (fun _ h => h), fun _ h => h⟩
theorem orcE_mono (T : Tab) (k : Nat) (cur : Option (PySem.Addr × Str)) : OrcMono (orcE T k cur) := ⟨(call_mono T k).run, (call_mono T k).runC, fun _ h => h⟩
end AM
end

section
set_option linter.all false
set_option maxRecDepth 100000
set_option maxHeartbeats 4000000
/-! AM, fourth part: the syntax held against the program's text. -/
namespace AM
open PySem L2

def visB (sc : Scope) (x : Str) : Bool := (match sc.names.lookup x with
  | some .local => true | some .cell => true | some .free => true | _ => false) && !(x == ("__debug__" : Str)) && !(x == ("__classdict__" : Str))
def locB (sc : Scope) (x : Str) : Bool := match sc.names.lookup x with
  | some .local => true | some .cell => true | _ => false
def glB (sc : Scope) (x : Str) : Bool := (match sc.names.lookup x with
  | some .globalImplicit => true | _ => false) && !(x == ("__debug__" : Str)) && !(x == ("__name__" : Str))

def bopB : Bop → Operator → Bool
  | .add, .Add => true | .sub, .Sub => true | .mul, .Mult => true | .fdiv, .FloorDiv => true | .mod, .Mod => true | .pow, .Pow => true
  | _, _ => false
def copB : Cop → CmpOp → Bool
  | .eq, .Eq => true | .ne, .NotEq => true | .lt, .Lt => true | .le, .LtE => true | .gt, .Gt => true | .ge, .GtE => true
  | .isin, .In => true | .notin, .NotIn => true | .isb, .Is => true | .nisb, .IsNot => true
  | _, _ => false
def tyN : Ty → Str
  | .int => "int" | .bool => "bool" | .str => "str" | .tuple => "tuple" | .list => "list" | .dict => "dict"
def tyS : Ty → String
  | .int => "int" | .bool => "bool" | .str => "str" | .tuple => "tuple" | .list => "list" | .dict => "dict"

/-- a test of no form of its own -/
def plainT : Expr → Bool
  | .UnaryOp .Not _ _ => false | .BoolOp _ _ _ => false | .IfExp _ _ _ _ => false | .Compare _ _ _ _ => false
  | _ => true
/-- a comparison -/
def isCmp : Ex → Bool
  | .cmp _ _ _ => true | .isN _ => true | .notN _ => true | .chain _ _ _ _ _ => true | .chain3 _ _ _ _ _ _ _ => true
  | _ => false
def noStar : Expr → Bool
  | .Starred _ _ => false
  | _ => true
def noSet : Expr → Bool
  | .Set _ _ _ => false
  | _ => true
def noSlice : Expr → Bool
  | .Slice _ _ _ _ => false
  | _ => true

def noTup : Expr → Bool
  | .Tuple _ _ _ => false
  | _ => true
/-- a base of an attribute that is not super() -/
def plainB : Expr → Bool
  | .Name _ _ => true | .Attribute _ _ _ => true | .Subscript _ _ _ => true | .Constant _ _ _ => true | .Call _ (_ :: _) _ _ => true | .Dict _ _ _ => true
  | _ => false
def bfN : Bf → Str
  | .list => "list" | .tuple => "tuple" | .sum => "sum" | .max1 => "max" | .min1 => "min" | .max2 => "max" | .min2 => "min" | .sorted => "sorted" | .ord => "ord" | .str => "str" | .int => "int" | .all => "all" | .any => "any" | .dict => "dict" | .maxT => "max"
def mfN : Mf → Str
  | .append => "append" | .pop => "pop" | .extend => "extend" | .insert => "insert" | .join => "join" | .index => "index" | .clear => "clear" | .remove => "remove" | .upper => "upper" | .partition => "partition" | .split => "split" | .endswith => "endswith" | .find => "find" | .count => "count"
def bfA : Bf → Nat
  | .max2 => 2 | .min2 => 2 | _ => 1
def mfA : Mf → Nat
  | .append => 1 | .pop => 0 | .extend => 1 | .insert => 2 | .join => 1 | .index => 1 | .clear => 0 | .remove => 1 | .upper => 0 | .partition => 1 | .split => 1 | .endswith => 1 | .find => 1 | .count => 1

structure Ctx where
  N : List Str
  sc : Scope
  xs : List Str
  fs : List Str
  lc : Str → Bool
  hot : Bool := false
  lm : List Str := []
  nd : Str → Arguments → FuncBody → Scope → List Str → Bool := fun _ _ _ _ _ => false
/-- parameters without more: none, one, two -/
def plainA : Arguments → Option (List Str)
  | ⟨[], [], none, [], [], none, []⟩ => some []
  | ⟨[], [⟨a, none, _⟩], none, [], [], none, []⟩ => some [a]
  | ⟨[], [⟨a, none, _⟩, ⟨b, none, _⟩], none, [], [], none, []⟩ => if a = b then none else some [a, b]
  | _ => none
/-- a function made here: of the key id, by what it captures -/
def ckLam (c : Ctx) (id : Str) (js : List Nat) (params : Arguments) (bd : FuncBody) (scope : Scope) : Bool :=
  js.all (fun j => (c.N[j]?).isSome) && NdefX.ndefB c.sc scope (js.map fun j => c.N.getD j "") && (plainA params).isSome && c.nd id params bd scope (js.map fun j => c.N.getD j "")
/-- a lambda of the one parameter z, without names more -/
def lam1B (z : Str) (params : Arguments) (sc : Scope) : Bool := (match params with
  | ⟨[], [⟨a, none, _⟩], none, [], [], none, []⟩ => decide (a = z)
  | _ => false) && decide (sc.kind = .function) && !sc.isCoroutine && !sc.isGenerator && decide (sc.names = [(z, .local)]) && !(z == ("__debug__" : Str))
/-- within a comprehension -/
def Ctx.inn (c : Ctx) (scope : Scope) : Ctx := ⟨c.N, relS scope c.sc, c.xs, c.fs, locB scope, c.hot, [], fun _ _ _ _ _ => false⟩
def ownA (N : List Str) (own : List Nat) : List (Str × Nat) := own.map fun i => (N.getD i "", i)
mutual
def ckG (c : Ctx) : Tg → Expr → Bool
  | .name i, e => (match e with
    | .Name x _ => decide (c.N[i]? = some x) && c.lc x
    | _ => false)
  | .tup ts, e => (match e with
    | .Tuple es _ _ => ckGs c ts es
    | _ => false)
def ckGs (c : Ctx) : Tgs → List Expr → Bool
  | .nil, es => (match es with
    | [] => true
    | _ => false)
  | .cons t ts, es => (match es with
    | e :: r => ckG c t e && noStar e && ckGs c ts r
    | _ => false)
end

/-- names of classes -/
def ckNm (c : Ctx) : List Str → List Expr → Bool
  | [], es => (match es with
    | [] => true
    | _ => false)
  | z :: zs, es => (match es with
    | .Name y _ :: r => decide (y = z) && glB c.sc y && ckNm c zs r
    | _ => false)
def nilX : Exs → Bool
  | .nil => true
  | .cons _ _ => false
mutual
def ckE (c : Ctx) : Ex → Expr → Bool
  | .var i, e => (match e with
    | .Name x _ => decide (c.N[i]? = some x) && visB c.sc x
    | _ => false)
  | .int i, e => (match e with
    | .Constant (.int j) _ _ => decide (i = j)
    | _ => false)
  | .bl b, e => (match e with
    | .Constant (.bool j) _ _ => decide (b = j)
    | _ => false)
  | .non, e => (match e with
    | .Constant .none _ _ => true
    | _ => false)
  | .str x, e => (match e with
    | .Constant (.str y) _ _ => decide (x = y)
    | _ => false)
  | .glob x, e => (match e with
    | .Name y _ => decide (y = x) && glB c.sc y
    | _ => false)
  | .tup es, e => (match e with
    | .Tuple es' _ _ => ckL c es es'
    | _ => false)
  | .lst es, e => (match e with
    | .List es' _ => ckL c es es'
    | _ => false)
  | .bin op a b, e => (match e with
    | .BinOp a' op' b' _ => bopB op op' && ckE c a a' && ckE c b b'
    | _ => false)
  | .neg a, e => (match e with
    | .UnaryOp .USub a' _ => ckE c a a'
    | _ => false)
  | .cmp op a b, e => (match e with
    | .Compare a' [op'] [b'] _ => copB op op' && ckE c a a' && ckE c b b' && noSet b'
    | _ => false)
  | .isN a, e => (match e with
    | .Compare a' [.Is] [.Constant .none _ _] _ => ckE c a a'
    | _ => false)
  | .notN a, e => (match e with
    | .Compare a' [.IsNot] [.Constant .none _ _] _ => ckE c a a'
    | _ => false)
  | .chain op op' a b d, e => (match e with
    | .Compare a' [o1, o2] [b', d'] _ => copB op o1 && copB op' o2 && ckE c a a' && ckE c b b' && ckE c d d' && noSet d'
    | _ => false)
  | .chain3 op op' op'' a b d f, e => (match e with
    | .Compare a' [o1, o2, o3] [b', d', f'] _ => copB op o1 && copB op' o2 && copB op'' o3 && ckE c a a' && ckE c b b' && ckE c d d' && ckE c f f' && noSet f'
    | _ => false)
  | .tst t, e => ckT c t e
  | .ite t a b, e => (match e with
    | .IfExp t' a' b' _ => ckT c t t' && ckE c a a' && ckE c b b'
    | _ => false)
  | .call f es, e => (match e with
    | .Call (.Name x _) (e1 :: es') [] _ => decide (x = f) && glB c.sc x && ckL c es (e1 :: es') && c.fs.contains f && !c.hot
    | .Call (.Name x _) [] [] _ => decide (x = f) && glB c.sc x && nilX es && c.fs.contains f && !c.hot
    | _ => false)
  | .len a, e => (match e with
    | .Call (.Name x _) [a'] [] _ => decide (x = "len") && glB c.sc x && ckE c a a' && noStar a'
    | _ => false)
  | .abs a, e => (match e with
    | .Call (.Name x _) [a'] [] _ => decide (x = "abs") && glB c.sc x && ckE c a a' && noStar a'
    | _ => false)
  | .maxd a d, e => (match e with
    | .Call (.Name x _) [a'] [⟨some y, d', _⟩] _ => decide (x = "max") && glB c.sc x && decide (y = "default") && ckE c a a' && ckE c d d' && noStar a' && !c.hot
    | _ => false)
  | .sortk a q, e => (match e with
    | .Call (.Name x _) [a'] [⟨some y, .Lambda params (.Subscript (.Name z _) (.Constant (.int n) _ _) _) sc _, _⟩, ⟨some y2, .Constant (.bool b) _ _, _⟩] _ => decide (x = "sorted") && glB c.sc x && decide (y = "key") && decide (y2 = "reverse") && b && decide (n = 0) && lam1B z params sc && ckE c a a' && noStar a' && c.lm.contains q && !c.hot
    | _ => false)
  | .lrev a, e => (match e with
    | .Call (.Name x _) [.Call (.Name y _) [a'] [] _] [] _ => decide (x = "list") && glB c.sc x && decide (y = "reversed") && glB c.sc y && ckE c a a' && noStar a' && !c.hot
    | _ => false)
  | .isi a t, e => (match e with
    | .Call (.Name x _) [a', .Name y _] [] _ => decide (x = "isinstance") && glB c.sc x && decide (y = tyN t) && glB c.sc y && ckE c a a' && noStar a'
    | _ => false)
  | .isc a z, e => (match e with
    | .Call (.Name x _) [a', .Name y _] [] _ => decide (x = "isinstance") && glB c.sc x && decide (y = z) && glB c.sc y && ckE c a a' && noStar a'
    | _ => false)
  | .isE a z, e => (match e with
    | .Call (.Name x _) [a', .Name y _] [] _ => decide (x = "isinstance") && glB c.sc x && decide (y = z) && glB c.sc y && ckE c a a' && noStar a'
    | _ => false)
  | .isEt a zs, e => (match e with
    | .Call (.Name x _) [a', .Tuple es _ _] [] _ => decide (x = "isinstance") && glB c.sc x && ckNm c zs es && (decide (zs.length ≤ 1000) && decide (zs ≠ [])) && ckE c a a' && noStar a'
    | _ => false)
  | .sub a i, e => (match e with
    | .Subscript a' i' _ => ckE c a a' && ckE c i i' && noSlice i'
    | _ => false)
  | .slice a lo hi, e => (match e with
    | .Subscript a' (.Slice lo' hi' none _) _ => ckE c a a' && ckO c lo lo' && ckO c hi hi'
    | _ => false)
  | .blt f es, e => (match e with
    | .Call (.Name x _) (e1 :: es') [] _ => decide (x = bfN f) && glB c.sc x && ckL c es (e1 :: es') && decide (es'.length + 1 = bfA f) && !c.hot
    | _ => false)
  | .mth m o es, e => (match e with
    | .Call (.Attribute o' nm apos) es' [] cpos => decide (nm = mfN m) && ckE c o o' && ckL c es es' && (apos.endLine == cpos.line) && plainB o' && decide (es'.length = mfA m)
    | _ => false)
  | .comp own elt tg it cond, e => (match e with
    | .ListComp elt' [⟨tg', it', ifs, 0⟩] scope _ => !c.hot && blkC c.N c.sc scope (ownA c.N own) && ckI c it tg' it' && ckG (c.inn scope) tg tg' && (tgS tg).all own.contains && ckT0 (c.inn scope) cond ifs && ckE (c.inn scope) elt elt'
    | _ => false)
  | .fld o f, e => (match e with
    | .Attribute o' nm _ => decide (nm = f) && ckE c o o' && plainB o'
    | _ => false)
  | .mcall o m es, e => (match e with
    | .Call (.Attribute o' nm apos) es' [] cpos => decide (nm = m) && ckE c o o' && ckL c es es' && plainB o' && (apos.endLine == cpos.line) && decide (es'.length < 28) && !c.hot
    | _ => false)
  | .make x es, e => (match e with
    | .Call (.Name y _) es' [] _ => decide (y = x) && glB c.sc y && ckL c es es' && !c.hot
    | _ => false)
  | .make0 x, e => (match e with
    | .Call (.Name y _) [] [] _ => decide (y = x) && glB c.sc y && !c.hot
    | _ => false)
  | .dsp es, e => (match e with
    | .Dict ks vs _ => ckP c es ks vs && decide (ks.length ≤ 15)
    | _ => false)
  | .get1 o k, e => (match e with
    | .Call (.Attribute o' nm apos) [k'] [] cpos => decide (nm = "get") && ckE c o o' && ckE c k k' && (apos.endLine == cpos.line) && plainB o' && noStar k'
    | _ => false)
  | .get2 o k d, e => (match e with
    | .Call (.Attribute o' nm apos) [k', d'] [] cpos => decide (nm = "get") && ckE c o o' && ckE c k k' && (apos.endLine == cpos.line) && plainB o' && noStar k' && ckE c d d' && noStar d'
    | _ => false)
  | .gget x k d, e => (match e with
    | .Call (.Attribute (.Name y p) nm apos) [k', d'] [] cpos => decide (nm = "get") && decide (y = x) && glB c.sc y && ckE c k k' && (apos.endLine == cpos.line) && plainB (.Name y p) && noStar k' && ckE c d d' && noStar d'
    | _ => false)
  | .dpop1 o k, e => (match e with
    | .Call (.Attribute o' nm apos) [k'] [] cpos => decide (nm = "pop") && ckE c o o' && ckE c k k' && (apos.endLine == cpos.line) && plainB o' && noStar k'
    | _ => false)
  | .dpop2 o k d, e => (match e with
    | .Call (.Attribute o' nm apos) [k', d'] [] cpos => decide (nm = "pop") && ckE c o o' && ckE c k k' && (apos.endLine == cpos.line) && plainB o' && noStar k' && ckE c d d' && noStar d'
    | _ => false)
  | .evens a, e => (match e with
    | .Subscript a' (.Slice none none (some (.Constant (.int j) _ _)) _) _ => ckE c a a' && decide (j = 2)
    | _ => false)
  | .callv i es, e => (match e with
    | .Call (.Name x _) es' [] _ => decide (c.N[i]? = some x) && visB c.sc x && ckL c es es' && !c.hot
    | _ => false)
  | .callc f es id q js, e => (match e with
    | .Call (.Name x _) es' [] _ => decide (x = f) && glB c.sc x && ckLc c id js es es' && c.fs.contains f && !c.hot && c.lm.contains q
    | _ => false)
  | .mcallc o m es id q js, e => (match e with
    | .Call (.Attribute o' nm apos) es' [] cpos => decide (nm = m) && ckE c o o' && ckLc c id js es es' && plainB o' && (apos.endLine == cpos.line) && decide (es'.length < 28) && !c.hot && c.lm.contains q
    | _ => false)
  | .lck m, e => ckE c m e
def ckLc (c : Ctx) (id : Str) (js : List Nat) : Exs → List Expr → Bool
  | .nil, es => (match es with
    | [.Lambda params body scope _] => ckLam c id js params (.expr body) scope
    | _ => false)
  | .cons m ms, es => (match es with
    | e :: r => ckE c m e && noStar e && ckLc c id js ms r
    | _ => false)
def ckP (c : Ctx) : Exs → List (Option Expr) → List Expr → Bool
  | .nil, ks, vs => (match ks, vs with
    | [], [] => true
    | _, _ => false)
  | .cons k r, ks, vs => (match r, ks, vs with
    | .cons v r, some k' :: ks, v' :: vs => ckE c k k' && ckE c v v' && ckP c r ks vs
    | _, _, _ => false)
def ckO (c : Ctx) : Oe → Option Expr → Bool
  | .none, e => (match e with
    | none => true
    | _ => false)
  | .some m, e => (match e with
    | some e => ckE c m e
    | _ => false)
def ckI (c : Ctx) : It → Expr → Expr → Bool
  | .seq m, _, e => ckE c m e && noSet e
  | .range1 m, _, e => (match e with
    | .Call (.Name x _) [a] [] _ => decide (x = "range") && glB c.sc x && ckE c m a && noStar a
    | _ => false)
  | .range2 m n, _, e => (match e with
    | .Call (.Name x _) [a, b] [] _ => decide (x = "range") && glB c.sc x && ckE c m a && noStar a && ckE c n b && noStar b
    | _ => false)
  | .enum m, tg, e => (match tg, e with
    | .Tuple _ _ _, .Call (.Name x _) [a] [] _ => decide (x = "enumerate") && glB c.sc x && ckE c m a && noStar a
    | _, _ => false)
  | .zip m n, tg, e => (match tg, e with
    | .Tuple _ _ _, .Call (.Name x _) [a, b] [] _ => decide (x = "zip") && glB c.sc x && ckE c m a && noStar a && ckE c n b && noStar b
    | _, _ => false)
  | .rev m, _, e => (match e with
    | .Call (.Name x _) [a] [] _ => decide (x = "reversed") && glB c.sc x && ckE c m a && noStar a
    | _ => false)
  | .revr m, _, e => (match e with
    | .Call (.Name x _) [.Call (.Name y _) [a] [] _] [] _ => decide (x = "reversed") && glB c.sc x && decide (y = "range") && glB c.sc y && ckE c m a && noStar a
    | _ => false)
  | .rangeD m n, _, e => (match e with
    | .Call (.Name x _) [a, b, .UnaryOp .USub (.Constant (.int j) _ _) _] [] _ => decide (x = "range") && glB c.sc x && ckE c m a && noStar a && ckE c n b && noStar b && decide (j = 1)
    | _ => false)
  | .keys m, _, e => ckE c m e && noSet e
  | .items m, tg, e => (match tg, e with
    | .Tuple _ _ _, .Call (.Attribute o' nm apos) [] [] cpos => decide (nm = "items") && ckE c m o' && (apos.endLine == cpos.line) && plainB o'
    | _, _ => false)
def ckT0 (c : Ctx) : Tes0 → List Expr → Bool
  | .none, es => (match es with
    | [] => true
    | _ => false)
  | .some t, es => (match es with
    | [e] => ckT c t e
    | _ => false)
def ckT (c : Ctx) : Te → Expr → Bool
  | .val m, e => ckE c m e && (plainT e || isCmp m)
  | .not t, e => (match e with
    | .UnaryOp .Not a _ => ckT c t a
    | _ => false)
  | .and ts, e => (match e with
    | .BoolOp .And es _ => ckTs c ts es
    | _ => false)
  | .or ts, e => (match e with
    | .BoolOp .Or es _ => ckTs c ts es
    | _ => false)
def ckTs (c : Ctx) : Tes → List Expr → Bool
  | .one t, es => (match es with
    | [e] => ckT c t e
    | _ => false)
  | .cons t ts, es => (match es with
    | e :: e2 :: r => ckT c t e && ckTs c ts (e2 :: r)
    | _ => false)
def ckL (c : Ctx) : Exs → List Expr → Bool
  | .nil, es => (match es with
    | [] => true
    | _ => false)
  | .cons m ms, es => (match es with
    | e :: r => ckE c m e && noStar e && ckL c ms r
    | _ => false)
end

/-- a value that no comprehension gives -/
def noComp : Expr → Bool
  | .ListComp _ _ _ _ => false | .SetComp _ _ _ _ => false | .DictComp _ _ _ _ _ => false
  | _ => true

/-- a comprehension's list is put in no other way than a value is -/
def noSwap (sc : Scope) (x : Str) (p : Pos) : Expr → Bool
  | .ListComp _ _ scope pos => !(decide (sc.names.lookup x = some .local) && (p.line == pos.line) && !(scope.names.any fun (n, k) => n == x && (k == .local || k == .cell)))
  | e => noComp e
/-- .. but in another -/
def yesSwap (sc : Scope) (x : Str) (p : Pos) : Expr → Bool
  | .ListComp _ _ scope pos => decide (sc.names.lookup x = some .local) && (p.line == pos.line) && !(scope.names.any fun (n, k) => n == x && (k == .local || k == .cell))
  | _ => false

/-- an except clause's name -/
def ckNmO (c : Ctx) (o : Option Nat) (nm : Option Str) : Bool := match o, nm with
  | none, none => true
  | some i, some n => decide (c.N[i]? = some n) && decide (c.sc.names.lookup n = some .local)
  | _, _ => false
mutual
def ckS (c : Ctx) : Sm → Stmt → Bool
  | .set i m, s => (match s with
    | .Assign [.Name x p] e _ => decide (c.N[i]? = some x) && c.lc x && ckE c m e && noSwap c.sc x p e
    | _ => false)
  | .asg tg m, s => (match s with
    | .Assign [.Tuple es k p] e _ => ckG c tg (.Tuple es k p) && ckE c m e && noComp e && noTup e && !c.hot
    | _ => false)
  | .setSub o i m, s => (match s with
    | .Assign [.Subscript o' i' _] e _ => ckE c o o' && ckE c i i' && ckE c m e && noSlice i'
    | _ => false)
  | .aug i op m, s => (match s with
    | .AugAssign (.Name x _) op' e _ => decide (c.N[i]? = some x) && c.lc x && (bopB op op' && (decide (op = .add) || decide (op = .sub))) && ckE c m e
    | _ => false)
  | .setC i own elt tg it cond, s => (match s with
    | .Assign [.Name x p] (.ListComp elt' [⟨tg', it', ifs, 0⟩] scope pos) _ => !c.hot && decide (c.N[i]? = some x) && yesSwap c.sc x p (.ListComp elt' [⟨tg', it', ifs, 0⟩] scope pos) &&
        (blkC c.N c.sc scope (ownA c.N own) && ckI c it tg' it' && ckG (c.inn scope) tg tg' && (tgS tg).all own.contains && ckT0 (c.inn scope) cond ifs && ckE (c.inn scope) elt elt')
    | _ => false)
  | .for_ tg it b, s => (match s with
    | .For tg' it' bd [] _ => ckI c it tg' it' && ckG c tg tg' && ckSs c b bd && !c.hot
    | _ => false)
  | .ret m, s => (match s with
    | .Return (some e) _ => ckE c m e
    | _ => false)
  | .retN, s => (match s with
    | .Return none _ => true
    | _ => false)
  | .pass, s => (match s with
    | .Pass _ => true
    | .Expr (.Constant (.str _) _ _) _ => true
    | _ => false)
  | .brk, s => (match s with
    | .Break _ => true
    | _ => false)
  | .cont, s => (match s with
    | .Continue _ => true
    | _ => false)
  | .drop m, s => (match s with
    | .Expr e _ => ckE c m e && noComp e
    | _ => false)
  | .ite t a b, s => (match s with
    | .If e x y _ => ckT c t e && ckSs c a x && ckSs c b y
    | _ => false)
  | .whil t b, s => (match s with
    | .While e x [] _ => ckT c t e && ckSs c b x && !c.hot
    | _ => false)
  | .raise x, s => (match s with
    | .Raise (some (.Call (.Name y _) [.Constant (.str _) _ _] [] _)) none _ => decide (y = x) && glB c.sc y && c.xs.contains x && !c.hot
    | _ => false)
  | .setFld o f m, s => (match s with
    | .Assign [.Attribute o' nm _] e _ => decide (nm = f) && ckE c o o' && ckE c m e
    | _ => false)
  | .augFld o f op m, s => (match s with
    | .AugAssign (.Attribute o' nm _) op' e _ => decide (nm = f) && bopB op op' && ckE c o o' && ckE c m e
    | _ => false)
  | .lck m, s => ckS c m s
  | .try_ b x o su, s => (match s with
    | .Try bd [.ExceptHandler (some (.Name y _)) nm (s0 :: ss) _] [] [] _ => decide (y = x) && glB c.sc y && ckSs c b bd && ckSs { c with hot := true } su (s0 :: ss) && ckNmO c o nm && !c.hot
    | _ => false)
def ckSs (c : Ctx) : Sms → List Stmt → Bool
  | .nil, ss => (match ss with
    | [] => true
    | _ => false)
  | .cons m ms, ss => (match ss with
    | s :: r => ckS c m s && ckSs c ms r
    | _ => false)
end
def nodupB : List Str → Bool
  | [] => true
  | x :: r => !r.contains x && nodupB r
/-- names bound in the def itself alone -/
def locL (sc : Scope) (x : Str) : Bool := decide (sc.names.lookup x = some .local)
def noNd : Str → Arguments → FuncBody → Scope → List Str → Bool := fun _ _ _ _ _ => false
/-- a function made within a def; fr: what it captures -/
def ckN (xs fs : List Str) (d : Fn) (params : Arguments) (bd : FuncBody) (scope : Scope) (fr : List Str) : Bool := match plainA params with
  | none => false
  | some ps => decide (d.ps = ps ++ fr) && NdefX.nscB d.N ps fr scope && (match bd with
    | .stmts b => ckSs ⟨d.N, scope, xs, fs, locL scope, false, [], noNd⟩ d.body b
    | .expr e => (match d.body with
      | .cons (.ret m) .nil => ckE ⟨d.N, scope, xs, fs, locL scope, false, [], noNd⟩ m e
      | _ => false))
def ndOf (xs fs : List Str) (nd : List (Str × Fn)) : Str → Arguments → FuncBody → Scope → List Str → Bool := fun id params bd scope fr => match nd.lookup id with
  | some d => ckN xs fs d params bd scope fr
  | none => false
/-- a def of the text -/
def ckF (xs fs : List Str) (d : Fn) (st : Stmt) (lm : List Str := []) (nd : List (Str × Fn) := []) : Bool := match st with
  | .FunctionDef _ a b _ _ _ sc _ _ _ => ckSs ⟨d.N, sc, xs, fs, locB sc, false, lm, ndOf xs fs nd⟩ d.body b && decide (sc.kind = .function) && !sc.isCoroutine && !sc.isGenerator && decide d.N.Nodup && decide (d.N.take d.ps.length = d.ps)
      && d.ps.all (fun x => locB sc x) && sc.names.all (fun y => decide (y.2 ≠ .free))
      && decide (a.args.map (·.arg) = d.ps) && a.posonlyargs.isEmpty && a.vararg.isNone && a.kwonlyargs.isEmpty && a.kw_defaults.isEmpty && a.kwarg.isNone && a.defaults.isEmpty
  | _ => false
end AM
end

section
set_option linter.all false
set_option maxRecDepth 100000
set_option maxHeartbeats 4000000
/-! AM, between: functions made within a def; a def called with one: what is called has a base with the function and its cells in it. -/
namespace AM
open PySem PySem.Spec PyProof.Rows L2 LamX NdefX

/-- its words -/
abbrev cloFd (nm q : Str) (params : Arguments) (bd : FuncBody) (scope : Scope) (cl : List (Str × Addr)) (c : Addr) (doc pm ctv : Value) : FuncData :=
  { name := nm, qualname := q, params, body := bd, scope, globals := mainGlobals, closure := cl, defaults := .none, kwdefaults := .none, doc := doc, pyModule := pm, annotations := none, code := .ref c, closureTuple := ctv, builtins := builtinsNs }
theorem bind_plain {params : Arguments} {ps : List Str} (h : plainA params = some ps) {nm q : Str} {bd : FuncBody} {scope : Scope} {cl : List (Str × Addr)} {c : Addr} {doc pm ctv : Value} {us : List Value} (hl : us.length = ps.length) :
    bindArgs (cloFd nm q params bd scope cl c doc pm ctv) ⟨us, []⟩ = pure (ps.zip us) := by
  unfold plainA at h
  split at h
  · cases h
    match us, hl with
    | [], _ => rfl
  · cases h
    match us, hl with
    | [u], _ =>
      unfold bindArgs
      simp only [List.map_nil, List.map_cons, List.nil_append, List.zip_cons_cons, List.zip_nil_right, List.length_cons, List.length_nil]
      first | rfl | (simp [seqItems?, List.lookup]; done) | (simp [seqItems?, List.lookup]; rfl)
  · split at h
    · cases h
    · rename_i a p1 b p2 hab
      cases h
      match us, hl with
      | [u, v], _ =>
        have e : (b == a) = false := beq_false_of_ne fun z => hab z.symm
        unfold bindArgs
        simp only [List.map_nil, List.map_cons, List.nil_append, List.zip_cons_cons, List.zip_nil_right, List.length_cons, List.length_nil]
        first | (simp [seqItems?, List.lookup, e]; done) | (simp [seqItems?, List.lookup, e]; rfl)
  · cases h

/-- what the captured cells hold -/
structure CellsB (cl : List (Str × Addr)) (fr : List Str) (xs : List V) (h : Heap) : Prop where
  len : xs.length = fr.length
  all : ∀ y c, cl.lookup y = some c → ∃ v, h.IsCell c v
  inj : ∀ x y c, cl.lookup x = some c → cl.lookup y = some c → x = y
  has : ∀ (i : Nat) (y : Str), fr[i]? = some y → ∃ c, cl.lookup y = some c ∧ ∃ v u, xs[i]? = some v ∧ L2.RelV v u ∧ h.IsCell c (some u)
theorem CellsB.keeps {cl : List (Str × Addr)} {fr : List Str} {xs : List V} {h h' : Heap} (C : CellsB cl fr xs h) (k : ∀ b o, h.get? b = some o → h'.get? b = some o) : CellsB cl fr xs h' :=
  ⟨C.len, fun y c e => let ⟨v, o, ho, hd⟩ := C.all y c e; ⟨v, o, k _ _ ho, hd⟩, C.inj, fun i y e => let ⟨c, e1, v, u, e2, r, o, ho, hd⟩ := C.has i y e; ⟨c, e1, v, u, e2, r, o, k _ _ ho, hd⟩⟩
theorem CellsB.at_ {cl : List (Str × Addr)} {fr : List Str} {xs : List V} {base h : Heap} {H : Hp} (C : CellsB cl fr xs base) (k : ∀ b o, base.get? b = some o → h.get? b = some o ∧ H b = none) : CellsAt cl fr (xs.map some) h H where
  len := by rw [List.length_map]; exact C.len
  all := fun y c e => let ⟨v, o, ho, hd⟩ := C.all y c e; ⟨(k _ _ ho).2, v, o, (k _ _ ho).1, hd⟩
  inj := C.inj
  has := fun i y e => by
    obtain ⟨c, e1, v, u, e2, r, o, ho, hd⟩ := C.has i y e
    refine ⟨c, e1, fun v' ev => ?_⟩
    rw [List.getElem?_map, e2] at ev
    cases ev
    exact ⟨u, r, o, (k _ _ ho).1, hd⟩
abbrev nfOf (nm q : Str) (params : Arguments) (scope : Scope) (cl : List (Str × Addr)) (c : Addr) : NF := ⟨nm, q, params, [], scope, cl, c⟩
section
variable {CX : CXT} {P : Program} {w : World} {K : PySem.W.Frag} {mg : Str → Option Value} {base : Heap} {N ps fr : List Str} {f c : Addr} {k : Nat} {nm q : Str} {params : Arguments} {bd : FuncBody} {scope : Scope} {cl : List (Str × Addr)} {doc pm ctv : Value} {od : Option Addr} {sl : Array (Option Value)} {xs : List V}
/-- its call, by its body -/
theorem clo_run (hpl : plainA params = some ps) (S : NScope N ps fr scope) (ho : base.get? f = some (⟨.type "function", od, .func (cloFd nm q params bd scope cl c doc pm ctv), sl⟩ : Obj)) (C : CellsB cl fr xs base)
    {A : Around} {outer : List PySem.Env} {s : Shared} {H : Hp} {us : List Value} {vs : List V} {Q : VK} {E : XK} (hr : Room (k + 1) A) (e0 : Env0 P w K mg base A outer s H) (hc : H c = some (CodeO c q)) (r : Vals vs us) (hl : vs.length = ps.length)
    (hbody : Room k (A.deeper (envF (nfOf nm q params scope cl c) f s.heap.objs.size)) →
      (∀ b, bd = .stmts b → ∃ t, PSs (ncx CX P w K mg base N (nfOf nm q params scope cl c) f A outer s H E) b t ∧ t { nx := fun _ H' => Q .non H', rt := Q } (startF N vs (xs.map some)) H) ∧
      (∀ e, bd = .expr e → ∃ t, PE (ncx CX P w K mg base N (nfOf nm q params scope cl c) f A outer s H E) e t ∧ t (startF N vs (xs.map some)) H Q)) :
    codeAny (model P w) A (.call (.ref f) ⟨us, []⟩) (CR CX outer P w H s Q E) s := by
  have hf := (e0.bs f _ ho).1
  have C1 := C.at_ e0.bs
  have lim : s.heap.NoLimit := e0.mod.nolimit.keeps fun b o e => (e0.bs b o e).1
  have kind := S.kind
  obtain ⟨hb1, hb2⟩ := hbody (hr.deeper _)
  have fin : ∀ {σ' : L2.St} {H' : Hp} {v : V} {u : Value} {s' : Shared}, Inv (ncx CX P w K mg base N (nfOf nm q params scope cl c) f A outer s H E) [] σ' H' s' → L2.RelV v u → Q v H' → CE outer P w H s Q u s' :=
    fun {σ' H' v u s'} J rv q => ⟨v, H', J.os, J.bare, J.base, J.hok, rv, q⟩
  have start : ∀ h₁ : Heap, (h₁.Ns s.heap.objs.size fun y => (ps.zip us).reverse.lookup y) → (∀ b o, s.heap.get? b = some o → h₁.get? b = some o) → ∀ tk, Inv (ncx CX P w K mg base N (nfOf nm q params scope cl c) f A outer s H E) [] (startF N vs (xs.map some)) H { s with heap := h₁, toks := tk } :=
    fun h₁ hns kp tk => inv_startN S hr.hd e0 hl r C1 hns kp
  have nloc : ∀ y ∈ ps.zip us, scope.names.lookup y.1 = some .local := fun ⟨n, _⟩ hy => S.par n (List.of_mem_zip hy).1
  cases bd with
  | stmts b =>
    obtain ⟨t, ht, hq⟩ := hb1 b rfl
    refine codeAny_call_function hr.depth hf rfl S.co S.gen rfl (codeO_at e0.hok hc) ?_
    rw [bind_plain hpl (by rw [← r.length]; exact hl)]
    refine wpAny_pure (wpAny_newFunctionEnv S.nocell nloc (fun h₁ hns hsb => ⟨lim.fresh _ hsb, ?_⟩) S.kind)
    show codeAny _ _ (.func b (envF (nfOf nm q params scope cl c) f s.heap.objs.size)) _ _
    refine codeAny_func ?_
    have kp : ∀ b o, s.heap.get? b = some o → h₁.get? b = some o := fun b o e => hsb.extBut b o (Nat.ne_of_lt (Heap.lt_size e)) (Heap.get?_push_of_some _ e)
    refine wpAny_mono (ht.run [] _ (startF N vs (xs.map some)) H _ (start h₁ hns kp _) hq) (fun fl s' hs => ?_) fun e s' hs => hs
    cases fl with
    | ret u =>
      obtain ⟨v, σ', H', J, rv, q⟩ := hs
      exact fin J rv q
    | next =>
      obtain ⟨σ', H', J, q⟩ := hs
      exact fin (v := V.non) (u := Value.none) J rfl q
    | brk =>
      obtain ⟨_, _, _, q⟩ := hs
      exact False.elim q
    | cont =>
      obtain ⟨_, _, _, q⟩ := hs
      exact False.elim q
  | expr e =>
    obtain ⟨t, ht, hq⟩ := hb2 e rfl
    refine PySem.W.kla_callFunE hr.depth hf rfl S.co S.gen rfl (codeO_at e0.hok hc) ?_
    rw [bind_plain hpl (by rw [← r.length]; exact hl)]
    refine wpAny_pure (wpAny_newFunctionEnv S.nocell nloc (fun h₁ hns hsb => ⟨lim.fresh _ hsb, ?_⟩) S.kind)
    show codeAny _ _ (.expr e (envF (nfOf nm q params scope cl c) f s.heap.objs.size)) _ _
    have kp : ∀ b o, s.heap.get? b = some o → h₁.get? b = some o := fun b o e => hsb.extBut b o (Nat.ne_of_lt (Heap.lt_size e)) (Heap.get?_push_of_some _ e)
    refine PySem.W.kla_codeExpr (wpAny_mono (ht.run [] _ (startF N vs (xs.map some)) H _ (start h₁ hns kp _) hq) (fun v s' hs => ?_) fun e s' hs => hs)
    obtain ⟨v', H', J, rv, q⟩ := hs
    exact fin J rv q
end
section
variable {X : Cx} {pins : List (Addr × Obj)} {σ : L2.St} {H : Hp} {s : Shared}
/-- the table at P tells the code object at c', as it stood or from now on -/
def TabUpC (P : Addr) (q : Str) (c' : Addr) (H H1 : Hp) : Prop := (H1 = H ∧ ∃ (ps : Array Value) (pos : Pos), H P = some (.tbl ps) ∧ codeAmong pos ps.toList = some (.ref c')) ∨ ∃ (ps more : Array Value), H P = some (.tbl ps) ∧ H c' = none ∧ H1 = upd (upd H P (.tbl (ps ++ more))) c' (CodeO c' q) ∧ TriplesOk (ps ++ more).toList ∧
  ∀ (pos : Pos) (cv : Value), codeAmong pos (ps ++ more).toList = some cv → codeAmong pos ps.toList = some cv ∨ cv = .ref c'
/-- a lambda is made; its object is not tracked -/
theorem lam_free {c P : Addr} {q : Str} {params : Arguments} {body : Expr} {scope : Scope} {pos : Pos} {E : Value → Shared → Prop} {Q : Value → Shared → Prop} (I : Inv X pins σ H s) (TB : TabB X.base X.mg c P) (hcode : X.env.code = .ref c)
    (hq : X.env.qual ++ "<lambda>" = q) (hT : TabS H P q) (hdef : defaultsOf params X.env = ([], [])) (hfree : ∀ y ∈ scope.names, y.2 = .free → ∃ c, X.env.cells.lookup y.1 = some c)
    (h : ∀ (f c' : Addr) (pm ctv : Value) (H1 : Hp) (s' : Shared), Inv X pins σ H1 s' → s'.heap.get? f = some (PySem.W.kla_obj "<lambda>" q params body scope (cloFrom X.env.cells scope.names []) pm c' ctv) → H1 f = none → f ∉ frs X.stack → TabUpC P q c' H H1 → Q (.ref f) s') :
    wpAny (model X.prog X.w) X.A (eval (.Lambda params body scope pos) X.env) Q E s := by
  subst hq
  obtain ⟨ps, hP, ht, ha⟩ := hT
  have bP : s.heap.BuiltinsAt X.mg P := TB.bm.keeps I.bk
  have hP' : s.heap.get? P = some { cls := .none, data := .fields ps } := I.hok P _ hP
  have nofr : ∀ f, s.heap.objs.size ≤ f → f ∉ frs X.stack := fun f hf z => by
    rcases List.mem_cons.mp (I.stkSub _ z) with e | e
    · have h1 := I.lt
      rw [← e] at h1
      exact Nat.lt_irrefl _ (Nat.lt_of_lt_of_le h1 hf)
    · exact I.nofs hf e
  refine PySem.W.kla_eval hdef ?_
  cases hc : codeAmong pos ps.toList with
  | some cv =>
    obtain ⟨c', e, hco⟩ := ha pos cv hc
    subst e
    refine PySem.W.kla_makeFunctionHit (mg := X.mg) (c := c) (P := P) (ps := ps) (closure_ok hfree) I.ok.glob (I.mod.glob.keeps I.bk) hcode (TB.code.keeps I.bk) hP' ht hc bP fun ctv h' tk hx hsz => ?_
    have I1 : Inv X pins σ H { s with heap := h'.push (PySem.W.kla_obj "<lambda>" (X.env.qual ++ "<lambda>") params body scope (cloFrom X.env.cells scope.names []) ((X.mg "__name__").getD .none) c' ctv), toks := tk } := I.kept fun b o e => Heap.get?_push_of_some _ (hx b o e)
    exact h h'.objs.size c' _ ctv H _ I1 (Heap.get?_push_size _ rfl) (I.hok.fresh hsz) (nofr _ hsz) (.inl ⟨rfl, ps, pos, hP, hc⟩)
  | none =>
    refine PySem.W.kla_makeFunction (mg := X.mg) (c := c) (P := P) (ps := ps) (closure_ok hfree) I.ok.glob (I.mod.glob.keeps I.bk) hcode (TB.code.keeps I.bk) hP' ht hc TB.gP bP fun c' ctv h' tk hx hge hlt hrec htb => ?_
    obtain ⟨c2, oc, vs, t, e2, hoc, hd, hv⟩ := hrec
    cases e2
    have hsz : s.heap.objs.size ≤ h'.objs.size := Nat.le_trans hge (Nat.le_of_lt hlt)
    have nC : H c' = none := I.hok.fresh hge
    have eL : (ps ++ #[rawInt pos.line, rawInt pos.col, .ref c']).toList = ps.toList ++ [rawInt pos.line, rawInt pos.col, .ref c'] := by simp
    have I1 := inv_table (t' := tk) (more := #[rawInt pos.line, rawInt pos.col, .ref c']) (h' := h'.push (PySem.W.kla_obj "<lambda>" (X.env.qual ++ "<lambda>") params body scope (cloFrom X.env.cells scope.names []) ((X.mg "__name__").getD .none) c' ctv)) I hP
      (fun b o hb e => Heap.get?_push_of_some _ (hx b o hb e)) (Heap.get?_push_of_some _ htb) hge ⟨oc, vs, t, Heap.get?_push_of_some _ hoc, hd, hv⟩
    refine h h'.objs.size c' _ ctv _ _ I1 (Heap.get?_push_size _ rfl) ?_ (nofr _ hsz) (.inr ⟨ps, _, hP, nC, rfl, by rw [eL]; exact PySem.TriplesOk_snoc _ _ _ _ ht, fun p' cv hcv => ?_⟩)
    · have n1 : h'.objs.size ≠ c' := Nat.ne_of_gt hlt
      have n2 : h'.objs.size ≠ P := Nat.ne_of_gt (Nat.lt_of_lt_of_le (Heap.lt_size hP') hsz)
      rw [upd_ne n1, upd_ne n2]
      exact I.hok.fresh hsz
    · rw [eL] at hcv
      exact among_app _ ht hcv
/-- the base, with a function made here and the frame's cells -/
theorem base_add (I : Inv X pins σ H s) (hall : ∀ x, X.fn x = true) {f : Addr} {ob : Obj} (hf : s.heap.get? f = some ob) (hn : H f = none) (hfr : f ∉ frs X.stack) :
    ∃ base' : Heap, (∀ b o, X.base.get? b = some o → base'.get? b = some o) ∧ base'.get? f = some ob ∧ (∀ y c o, X.env.cells.lookup y = some c → s.heap.get? c = some o → base'.get? c = some o) ∧ Env0 X.prog X.w X.K X.mg base' X.A X.stack s H := by
  have key : ∃ l : List Addr, ∀ b, b ∈ l ↔ (b < s.heap.objs.size ∧ (X.base.get? b) = none ∧ b ≠ f ∧ ∀ y, X.env.cells.lookup y ≠ some b) :=
    ⟨(List.range s.heap.objs.size).filter fun b => @decide ((X.base.get? b) = none ∧ b ≠ f ∧ ∀ y, X.env.cells.lookup y ≠ some b) (Classical.propDecidable _), fun b => by
      simp only [List.mem_filter, List.mem_range, decide_eq_true_eq]⟩
  obtain ⟨l, hl⟩ := key
  have sub : ∀ b o, X.base.get? b = some o → (PySem.W.hideAll s.heap l).get? b = some o := fun b o e => PySem.W.hideAll_get l (I.bk b o e) fun z => by
    have := ((hl b).mp z).2.1
    rw [e] at this; cases this
  have back : ∀ b o, (PySem.W.hideAll s.heap l).get? b = some o → s.heap.get? b = some o ∧ ((∃ o', X.base.get? b = some o') ∨ b = f ∨ ∃ y, X.env.cells.lookup y = some b) := fun b o e => by
    refine ⟨PySem.W.of_hideAll l e, ?_⟩
    by_cases h1 : ∃ o', X.base.get? b = some o'
    · exact .inl h1
    by_cases h2 : b = f
    · exact .inr (.inl h2)
    by_cases h3 : ∃ y, X.env.cells.lookup y = some b
    · exact .inr (.inr h3)
    have hm : b ∈ l := (hl b).mpr ⟨Heap.lt_size (PySem.W.of_hideAll l e), by
      cases q : X.base.get? b with
      | none => rfl
      | some o' => exact (h1 ⟨o', q⟩).elim, h2, fun y e => h3 ⟨y, e⟩⟩
    rw [PySem.W.hideAll_none l hm] at e; cases e
  refine ⟨PySem.W.hideAll s.heap l, sub, PySem.W.hideAll_get l hf fun z => ((hl f).mp z).2.2.1 rfl, fun y c o e1 e2 => PySem.W.hideAll_get l e2 fun z => ((hl c).mp z).2.2.2 y e1, ?_⟩
  have e0 := I.env0
  refine ⟨e0.frames, ⟨e0.mod.kin.keeps sub, e0.mod.glob.keeps sub, ?_, e0.mod.nolimit.keeps sub⟩, fun b o e => ?_, Nat.le_of_eq (PySem.W.hideAll_size _ _), ?_, e0.frf, e0.hok, e0.bare⟩
  · obtain ⟨mb, h1, h2⟩ := e0.mod.blt
    exact ⟨mb, h1.keeps sub, h2⟩
  · obtain ⟨h1, h2⟩ := back b o e
    refine ⟨h1, ?_⟩
    rcases h2 with ⟨o', h2⟩ | h2 | ⟨y, h2⟩
    · exact (e0.bs b o' h2).2
    · rw [h2]; exact hn
    · exact I.freeC y b h2
  · have out : ∀ L, L ∈ frs X.stack → X.base.get? L = none → (PySem.W.hideAll s.heap l).get? L = none := fun L hL hb => by
      cases q : (PySem.W.hideAll s.heap l).get? L with
      | none => rfl
      | some o =>
        obtain ⟨h1, h2⟩ := back L o q
        rcases h2 with ⟨o', h2⟩ | h2 | ⟨y, h2⟩
        · rw [hb] at h2; cases h2
        · rw [h2] at hL; exact absurd hL hfr
        · rcases List.mem_cons.mp (I.stkSub L hL) with z | z
          · exact absurd z (I.cne y L h2)
          · obtain ⟨_, o2, ho2, _⟩ := I.ok.funs.mem z
            exact absurd (Nat.lt_of_lt_of_le (Heap.lt_size ho2) (I.ok.cab y L (hall y) h2)) (Nat.lt_irrefl _)
    have all : ∀ (l2 : List PySem.Env), (∀ b ∈ frs l2, b ∈ frs X.stack) → s.heap.FunFrames X.base l2 → s.heap.FunFrames (PySem.W.hideAll s.heap l) l2 := by
      intro l2
      induction l2 with
      | nil => intro _ _; trivial
      | cons env r ih =>
        intro hs hl2
        obtain ⟨hk, ⟨L, o, hf2, hn2, ho2, hd2⟩, hr⟩ := hl2
        have hL : L ∈ frs X.stack := hs L (by unfold frs; rw [List.filterMap_cons, hf2]; exact List.mem_cons_self)
        exact ⟨hk, ⟨L, o, hf2, out L hL hn2, ho2, hd2⟩, ih (fun b hb => hs b (by unfold frs; rw [List.filterMap_cons, hf2]; exact List.mem_cons_of_mem _ hb)) hr⟩
    exact all X.stack (fun _ hb => hb) e0.funs
end
end AM
end

section
set_option linter.all false
set_option maxRecDepth 100000
set_option maxHeartbeats 4000000
/-! AM, fifth part: expressions are sound. -/
namespace AM
open PySem L2

theorem _root_.L2.PE.weak {X : Cx} {e : Expr} {t t' : TE} (h : PE X e t) (w : ∀ σ H Q, t' σ H Q → t σ H Q) : PE X e t' := ⟨fun pins s σ H Q I q => h.run pins s σ H Q I (w _ _ _ q)⟩
theorem _root_.L2.PT.weak {X : Cx} {e : Expr} {t t' : TT} (h : PT X e t) (w : ∀ σ H Q, t' σ H Q → t σ H Q) : PT X e t' := ⟨fun pins s σ H Q I q => h.run pins s σ H Q I (w _ _ _ q)⟩
theorem _root_.L2.PW.weak {X : Cx} {e : Expr} {t t' : TT} (h : PW X e t) (w : ∀ σ H Q, t' σ H Q → t σ H Q) : PW X e t' := ⟨fun wh pins s σ H Q I q => h.run wh pins s σ H Q I (w _ _ _ q)⟩
theorem _root_.L2.PA.weak {X : Cx} {e : List Expr} {t t' : TA} (h : PA X e t) (w : ∀ σ H Q, t' σ H Q → t σ H Q) : PA X e t' := ⟨fun pos pins s σ H Q I q => h.run pos pins s σ H Q I (w _ _ _ q)⟩

section
variable (K : PySem.W.Frag) (cA : Str → Addr)
def post (F : Hp) (β : List Addr) (Q : VK) : PV := fun v S' => ∀ F' β' H' x, Ext F β F' β' → Sim K cA F' β' S' H' → VR K F' β' v x → Q x H'
def postL (F : Hp) (β : List Addr) (Q : List V → Hp → Prop) : PL := fun v S' => ∀ F' β' H' x, Ext F β F' β' → Sim K cA F' β' S' H' → VRs K F' β' v x → Q x H'
def postB (F : Hp) (β : List Addr) (Q : Bool → Hp → Prop) : Bool → Sto → Prop := fun v S' => ∀ F' β' H', Ext F β F' β' → Sim K cA F' β' S' H' → Q v H'
def postX (F : Hp) (β : List Addr) (Wx : WX) (σ : St) : PX := fun c S' => ∀ F' β' H', Ext F β F' β' → Sim K cA F' β' S' H' → Wx (.ref (cA c)) none σ H'
def liftE (Wx : WX) (w : Env → Sto → PV → PX → Prop) : TE := fun σ H Q => ∃ F β Γ S, Sim K cA F β S H ∧ EnvR K F β Γ σ ∧ w Γ S (post K cA F β Q) (postX K cA F β Wx σ)
def liftL (Wx : WX) (w : Env → Sto → PL → PX → Prop) : TA := fun σ H Q => ∃ F β Γ S, Sim K cA F β S H ∧ EnvR K F β Γ σ ∧ w Γ S (postL K cA F β Q) (postX K cA F β Wx σ)
def liftT (Wx : WX) (w : Env → Sto → (Bool → Sto → Prop) → PX → Prop) : TT := fun σ H Q => ∃ F β Γ S, Sim K cA F β S H ∧ EnvR K F β Γ σ ∧ w Γ S (postB K cA F β Q) (postX K cA F β Wx σ)
end

section
variable (K : PySem.W.Frag) (cA : Str → Addr)
/-- an iterator over xs, while G stands -/
structure ItOk (F : Hp) (β : List Addr) (J : L2.It) (xs : List Va) (G : Sto → Prop) : Prop where
  go : ∀ F' β' S H i, Ext F β F' β' → Sim K cA F' β' S H → G S → i < xs.length → J.go i H
  stop : ∀ F' β' S H, Ext F β F' β' → Sim K cA F' β' S H → G S → J.stop xs.length H
  yld : ∀ F' β' S H i x H', Ext F β F' β' → Sim K cA F' β' S H → G S → i < xs.length → J.yld i H x H' → ∃ F2 v, xs[i]? = some v ∧ Ext F' β' F2 β' ∧ Sim K cA F2 β' S H' ∧ VR K F2 β' v x
def postI (F : Hp) (β : List Addr) (R : L2.It → Hp → Prop) : PI_ := fun xs G S' => ∀ F' β' H' J, Ext F β F' β' → Sim K cA F' β' S' H' → ItOk K cA F' β' J xs G → R J H'
def postO (F : Hp) (β : List Addr) (Q : Option Int → Hp → Prop) : Option Int → Sto → Prop := fun o S' => ∀ F' β' H', Ext F β F' β' → Sim K cA F' β' S' H' → Q o H'
def liftI (Wx : WX) (w : Env → Sto → PI_ → PX → Prop) : TI := fun σ H R => ∃ F β Γ S, Sim K cA F β S H ∧ EnvR K F β Γ σ ∧ w Γ S (postI K cA F β R) (postX K cA F β Wx σ)
def liftO (Wx : WX) (w : Env → Sto → (Option Int → Sto → Prop) → PX → Prop) : TO := fun σ H R => ∃ F β Γ S, Sim K cA F β S H ∧ EnvR K F β Γ σ ∧ w Γ S (postO K cA F β R) (postX K cA F β Wx σ)
end
theorem _root_.L2.PI.weak {X : Cx} {tg e : Expr} {t t' : TI} (h : PI X tg e t) (w : ∀ σ H Q, t' σ H Q → t σ H Q) : PI X tg e t' := ⟨fun pins s σ H Q I q => h.run pins s σ H Q I (w _ _ _ q)⟩
theorem _root_.L2.PO.weak {X : Cx} {e : Option Expr} {t t' : TO} (h : PO X e t) (w : ∀ σ H Q, t' σ H Q → t σ H Q) : PO X e t' := ⟨fun pins s σ H Q I q => h.run pins s σ H Q I (w _ _ _ q)⟩
theorem _root_.L2.PG.weak {X : Cx} {e : Expr} {t t' : TG} (h : PG X e t) (w : ∀ v σ H Q, t' v σ H Q → t v σ H Q) : PG X e t' := ⟨fun pins s σ H v u Q I r q => h.run pins s σ H v u Q I r (w _ _ _ _ q)⟩
theorem _root_.L2.PGs.weak {X : Cx} {e : List Expr} {t t' : TGs} (h : PGs X e t) (w : ∀ v σ H Q, t' v σ H Q → t v σ H Q) : PGs X e t' := ⟨fun pins s σ H v u Q I r q => h.run pins s σ H v u Q I r (w _ _ _ _ q)⟩
theorem _root_.L2.PG.or {X : Cx} {e : Expr} {t t' : TG} (h : PG X e t) (h' : PG X e t') : PG X e (fun v σ H Q => t v σ H Q ∨ t' v σ H Q) := ⟨fun pins s σ H v u Q I r q => q.elim (fun q => h.run pins s σ H v u Q I r q) fun q => h'.run pins s σ H v u Q I r q⟩
theorem _root_.L2.PTs.weak {X : Cx} {e : List Expr} {t t' : TT} (h : PTs X e t) (w : ∀ σ H Q, t' σ H Q → t σ H Q) : PTs X e t' := ⟨fun pins s σ H Q I q => h.run pins s σ H Q I (w _ _ _ q)⟩

/-- a def's promise -/
def spI (K : PySem.W.Frag) (cA : Str → Addr) (C : Orc) (f : Str) : Sp := fun vs H Q E => ∃ F β S as, Sim K cA F β S H ∧ VRs K F β as vs ∧
  C.run f as S (post K cA F β Q) (fun c S' => ∀ F' β' H', Ext F β F' β' → Sim K cA F' β' S' H' → E (.ref (cA c)) none H')

def bltNames : List Str := ["len", "abs", "isinstance", "int", "bool", "str", "tuple", "list", "dict", "range", "max", "min", "sum", "sorted", "reversed", "enumerate", "zip", "all", "any", "ord"]

theorem vis_of {sc : Scope} {x : Str} (h : visB sc x = true) : Vis sc x := by
  have h1 := (Bool.and_eq_true_iff.mp (Bool.and_eq_true_iff.mp h).1).1
  unfold Vis
  split at h1
  · exact .inl (by assumption)
  · exact .inr (.inl (by assumption))
  · exact .inr (.inr (by assumption))
  · cases h1
theorem loc_of {sc : Scope} {x : Str} (h : locB sc x = true) : sc.names.lookup x = some .local ∨ sc.names.lookup x = some .cell := by
  unfold locB at h
  split at h
  · exact .inl (by assumption)
  · exact .inr (by assumption)
  · cases h
theorem gl_of {sc : Scope} {x : Str} (h : glB sc x = true) : sc.names.lookup x = some .globalImplicit := by
  have h1 := (Bool.and_eq_true_iff.mp (Bool.and_eq_true_iff.mp h).1).1
  split at h1
  · assumption
  · cases h1
/-- an own class, as isinstance asks it -/
def IsaOk (K : PySem.W.Frag) (C : Addr) : Prop := Cls K C ∧ PySem.W.findIn K (.ref C) "__class__" = some (some (.builtin "object.__class__")) ∧ PySem.W.specialIn K (.builtin "object.__class__") "__get__" = some (some (.builtin "getset_descriptor.__get__")) ∧
  PySem.W.takesIn K (.builtin "object.__class__") = some true ∧ PySem.W.mroIn K C (.type "object") = some true
/-- a written dict: what stands at some texts, there or not -/
def DctOk (w : World) (K : PySem.W.Frag) (mg : Str → Option Value) (p : Str × List (Str × Option Va)) : Prop := ∃ A es n, mg p.1 = some (.ref A) ∧ KDict K w A es n ∧ ∀ q ∈ p.2, ∃ r, PySem.W.nsIn K A q.1 = some r ∧
  match q.2 with
  | none => r = none
  | some v => ∃ u y, r = some u ∧ RelV y u ∧ ∀ F β, VR K F β v y
/-- a class that an except clause or an isinstance of an exception names -/
def XkOk (K : PySem.W.Frag) (mg : Str → Option Value) (cA : Str → Addr) (p : Str × Str × Bool) : Prop := ∃ v cv, ClsV v cv ∧ (mg p.2.1 = some cv ∨ (mg p.2.1 = none ∧ bootBuiltins p.2.1 = some cv ∧ p.2.1 ≠ "__name__")) ∧ ExcC K (cA p.1) ∧
  PySem.W.kitOne K (.ref (cA p.1)) cv = some p.2.2 ∧ PySem.W.exmOne K (.ref (cA p.1)) cv = some p.2.2
/-- a function made within a def, as the base tells it -/
def CloB (T : Tab) (xs fs : List Str) (base : Heap) (z : Clo) : Prop := ∃ (nm : Str) (params : Arguments) (bd : FuncBody) (scope : Scope) (cl : List (Str × Addr)) (fr : List Str) (d : Fn) (doc pm ctv : Value) (od : Option Addr) (sl : Array (Option Value)),
  T.fn z.id = some d ∧ ckN xs fs d params bd scope fr = true ∧ base.get? z.f = some (⟨.type "function", od, .func (cloFd nm z.q params bd scope cl z.c doc pm ctv), sl⟩ : Obj) ∧ CellsB cl fr z.xs base
/-- .. its call's promise -/
def CloOk (P : Program) (w : World) (K : PySem.W.Frag) (mg : Str → Option Value) (base : Heap) (cA : Str → Addr) (T : Tab) (k : Nat) (z : Clo) : Prop :=
  ∀ (A : Around) (outer : List PySem.Env) (s : Shared) (H : Hp) (us : List Value) (vs : List V) (Q : VK) (E : XK), Room (2 * k) A → Env0 P w K mg base A outer s H → H z.c = some (LamX.CodeO z.c z.q) → Vals vs us → spI K cA (orc T k) z.id (vs ++ z.xs) H Q E →
    codeAny (model P w) A (.call (.ref z.f) ⟨us, []⟩) (CR (L2.CX P w) outer P w H s Q E) s
/-- the defs' promises over a base -/
def FnsOk (P : Program) (w : World) (K : PySem.W.Frag) (mg : Str → Option Value) (base : Heap) (cA : Str → Addr) (T : Tab) (k : Nat) (fs : List Str) : Prop :=
  (∀ f ∈ fs, ∃ d a fd, T f = some d ∧ mg f = some (.ref a) ∧ PySem.W.keepIn K (.ref a) = true ∧ Binds K fd d.ps [] ∧ FnOk P w K mg base (L2.CX P w) (2 * k) a fd d.ps (spI K cA (orc T k) f)) ∧
  (∀ p ∈ T.mt, Cls K (cA p.1) ∧ ∃ d a fd, T.fn p.2.2 = some d ∧ Meth K (cA p.1) p.2.1 a ∧ Binds K fd d.ps [] ∧ FnOk P w K mg base (L2.CX P w) (2 * k) a fd d.ps (spI K cA (orc T k) p.2.2))
structure Gd (c : Ctx) (cA : Str → Addr) (T : Tab) (k : Nat) (cur : Option (Addr × Str)) (Wx : WX) (X : Cx) : Prop where
  hN : X.N = c.N
  nd : X.N.Nodup
  sc : X.env.scope = c.sc
  kind : c.sc.kind = .function
  loc : ∀ x, c.lc x = true → Loc X.env.scope x ∧ (X.fn x = true ∨ X.env.scope.names.lookup x = some .local)
  calm : c.hot = false → X.calm = true
  room : c.hot = false → Room (2 * k + 1) X.A
  un : X.A.units + 65 < cLine
  tk : Takes X Wx
  pass : c.hot = false → PassesOwn (model X.prog X.w) X.A X.env X.xe
  nc : c.hot = false → cur = none
  curok : ∀ a x, cur = some (a, x) → ∃ oe, (a, oe) ∈ X.pn ∧ Zc (.ref (cA x)) none oe ∧ ∃ vs, oe.data = .fields vs
  xk : ∀ p ∈ T.xk, XkOk X.K X.mg cA p
  blt : ∀ x ∈ bltNames, X.mg x = none
  fn : ∀ f ∈ c.fs, ∃ d a fd, T f = some d ∧ X.mg f = some (.ref a) ∧ PySem.W.keepIn X.K (.ref a) = true ∧ Binds X.K fd d.ps [] ∧ FnOk X.prog X.w X.K X.mg X.base (L2.CX X.prog X.w) (2 * k) a fd d.ps (spI X.K cA (orc T k) f)
  exc : ∀ x ∈ c.xs, X.mg x = some (.ref (cA x)) ∧ PySem.W.excIn X.K (cA x) [.type "ValueError", .type "Exception", .type "BaseException", .type "object"] "ValueError.__new__" = true ∧ PySem.W.keepIn X.K (.ref (cA x)) = true ∧ Raises X (.ref (cA x))
  glo : ∀ p ∈ T.gb, ∃ u y, X.mg p.1 = some u ∧ RelV y u ∧ ∀ F β, VR X.K F β p.2 y
  noat : ∀ p ∈ T.na, Cls X.K (cA p.1) ∧ NoAttr X.K (cA p.1) p.2
  meth : ∀ p ∈ T.mt, Cls X.K (cA p.1) ∧ ∃ d a fd, T.fn p.2.2 = some d ∧ Meth X.K (cA p.1) p.2.1 a ∧ Binds X.K fd d.ps [] ∧ FnOk X.prog X.w X.K X.mg X.base (L2.CX X.prog X.w) (2 * k) a fd d.ps (spI X.K cA (orc T k) p.2.2)
  init : ∀ p ∈ T.it, X.mg p.1 = some (.ref (cA p.1)) ∧ PySem.W.keepIn X.K (.ref (cA p.1)) = true ∧ match p.2 with
    | none => PySem.W.makesIn X.K (cA p.1) = true ∧ PySem.W.findIn X.K (.ref (cA p.1)) "__init__" = some (some (.builtin "object.__init__")) ∧ PySem.W.mroIn X.K (cA p.1) (.type "object") = some true
    | some key => ∃ d a fd, T.fn key = some d ∧ Mk X.K (cA p.1) a ∧ Binds X.K fd d.ps [] ∧ FnOk X.prog X.w X.K X.mg X.base (L2.CX X.prog X.w) (2 * k) a fd d.ps (spI X.K cA (orc T k) key)
  isa : ∀ p ∈ T.ia, X.mg p.2.1 = some (.ref (cA p.2.1)) ∧ IsaOk X.K (cA p.1) ∧ PySem.W.kitOne X.K (.ref (cA p.1)) (.ref (cA p.2.1)) = some p.2.2
  gdc : ∀ p ∈ T.gd, DctOk X.w X.K X.mg p
  lam : ∀ q ∈ c.lm, X.env.qual ++ "<lambda>" = q ∧ ∃ cc, X.env.code = .ref cc ∧ LamX.TabB X.base X.mg cc (cA q)
  fnall : c.lm ≠ [] → ∀ x, X.fn x = true
  ndk : ∀ id params bd scope fr, c.nd id params bd scope fr = true → ∃ d, T.fn id = some d ∧ ckN c.xs c.fs d params bd scope fr = true
  clo : ∀ z ∈ T.cl, PySem.W.FnAt z.f X.base ∧ CloOk X.prog X.w X.K X.mg X.base cA T k z
  up : ∀ (base : Heap) (z : Clo), (∀ b o, X.base.get? b = some o → base.get? b = some o) → CloB T c.xs c.fs base z → FnsOk X.prog X.w X.K X.mg base cA (T.add z) k c.fs
theorem Gd.vis {c : Ctx} {cA : Str → Addr} {T : Tab} {k : Nat} {cur : Option (Addr × Str)} {Wx : WX} {X : Cx} (g : Gd c cA T k cur Wx X) (x : Str) (h : visB c.sc x = true) : Vis X.env.scope x := by
  rw [g.sc]; exact vis_of h
theorem Gd.gl {c : Ctx} {cA : Str → Addr} {T : Tab} {k : Nat} {cur : Option (Addr × Str)} {Wx : WX} {X : Cx} (g : Gd c cA T k cur Wx X) (x : Str) (h : glB c.sc x = true) : Gl X x := by
  show X.env.scope.names.lookup x = _
  rw [g.sc]; exact gl_of h
theorem rel_lk {sc : Scope} {x : Str} {k : NameKind} : ∀ {l : List (Str × NameKind)}, l.lookup x = some k → (l.map fun (n, k) => if (k == NameKind.free && sc.kind == .function && sc.names.lookup n == some .cell) then (n, NameKind.cell) else (n, k)).lookup x = some (if (k == NameKind.free && sc.kind == .function && sc.names.lookup x == some .cell) then NameKind.cell else k)
  | [], h => by simp at h
  | (n, j) :: r, h => by
    have ih := @rel_lk sc x k r
    show List.lookup x ((if (j == NameKind.free && sc.kind == .function && sc.names.lookup n == some .cell) = true then (n, NameKind.cell) else (n, j)) :: _) = _
    cases hx : x == n with
    | true =>
      have e : x = n := by simpa using hx
      subst e
      rw [List.lookup_cons, hx] at h
      cases h
      by_cases hc : (k == NameKind.free && sc.kind == .function && sc.names.lookup x == some .cell) = true
      · rw [if_pos hc, if_pos hc, List.lookup_cons, hx]
      · rw [if_neg hc, if_neg hc, List.lookup_cons, hx]
    | false =>
      rw [List.lookup_cons, hx] at h
      by_cases hc : (j == NameKind.free && sc.kind == .function && sc.names.lookup n == some .cell) = true
      · rw [if_pos hc, List.lookup_cons, hx]; exact ih h
      · rw [if_neg hc, List.lookup_cons, hx]; exact ih h
theorem Gd.inn {c : Ctx} {cA : Str → Addr} {T : Tab} {k : Nat} {cur : Option (Addr × Str)} {Wx : WX} {X : Cx} (g : Gd c cA T k cur Wx X) {scope : Scope} (hk : scope.kind = .function) (s : Shared) (H : Hp) (C : Addr) (cl : List (Str × Addr)) (fp : List Addr) (hh : c.hot = false) :
    Gd (c.inn scope) cA T k cur (fun _ _ _ _ => False) (X.blk s H scope (compEnvC scope cl C X.env) fp) where
  hN := g.hN
  nd := g.nd
  sc := by
    show relS scope X.env.scope = relS scope c.sc
    rw [g.sc]
  kind := hk
  loc := fun x h => by
    have h1 : locB scope x = true := h
    have hz : ∀ k, k ≠ NameKind.free → scope.names.lookup x = some k → (relS scope X.env.scope).names.lookup x = some k := fun k hk e => by
      have e1 := rel_lk (sc := X.env.scope) e
      have e2 : (k == NameKind.free) = false := by cases k <;> first | rfl | exact absurd rfl hk
      rw [e2] at e1
      exact e1
    rcases loc_of h1 with e | e
    · exact ⟨.inl (hz _ (by decide) e), .inr (hz _ (by decide) e)⟩
    · refine ⟨.inr (hz _ (by decide) e), .inl ?_⟩
      show (scope.names.lookup x == some .cell) = true
      rw [e]; rfl
  calm := g.calm
  room := g.room
  un := g.un
  nc := g.nc
  curok := fun a x e => by rw [g.nc hh] at e; cases e
  xk := g.xk
  tk := by
    rintro u s' ⟨_, _, _, _, _, _, _, _, _, _, _, _, _, _, _, _, z⟩
    exact z.elim
  pass := fun _ => PassesOwn.never
  blt := g.blt
  fn := g.fn
  exc := g.exc
  glo := g.glo
  noat := g.noat
  meth := g.meth
  isa := g.isa
  gdc := g.gdc
  init := g.init
  lam := fun q hq => by cases (show q ∈ ([] : List Str) from hq)
  fnall := fun h => absurd rfl h
  ndk := fun _ _ _ _ _ h => by cases h
  clo := g.clo
  up := g.up

section
variable {K : PySem.W.Frag} {cA : Str → Addr} {F F' : Hp} {β β' : List Addr}
theorem post_ext {Q : VK} (e : Ext F β F' β') {v : Va} {S : Sto} (h : post K cA F β Q v S) : post K cA F' β' Q v S := fun F2 β2 H2 x e2 s r => h F2 β2 H2 x (e.trans e2) s r
theorem postX_ext {Wx : WX} {σ : St} (e : Ext F β F' β') : ∀ (c : Str) (S : Sto), postX K cA F β Wx σ c S → postX K cA F' β' Wx σ c S := fun c S h F2 β2 H2 e2 s => h F2 β2 H2 (e.trans e2) s
theorem EnvR.ext {Γ : Env} {σ : St} (e : Ext F β F' β') (h : EnvR K F β Γ σ) : EnvR K F' β' Γ σ := EnvR.mono e.sub e.pre Γ σ h
theorem VR.ext {v : Va} {x : V} (e : Ext F β F' β') (h : VR K F β v x) : VR K F' β' v x := VR.mono e.sub e.pre v x h
theorem VRs.ext {v : List Va} {x : List V} (e : Ext F β F' β') (h : VRs K F β v x) : VRs K F' β' v x := VRs.mono e.sub e.pre v x h
theorem VRk.ext {v : List (Key × Va)} {x : List (Key × V)} (e : Ext F β F' β') (h : VRk K F β v x) : VRk K F' β' v x := VRk.mono e.sub e.pre v x h
theorem ext_drop {a : Addr} (fa : F a = none) (e : Ext F β F' β') : Ext F β (dropF F' a) β' := ⟨fun b o z => by
  have hb : b ≠ a := fun w => by subst w; rw [fa] at z; cases z
  show (if b = a then none else F' b) = _
  rw [if_neg hb]
  exact e.sub b o z, e.pre⟩
theorem post_here {Q : VK} {v : Va} {S : Sto} {H : Hp} {x : V} (s : Sim K cA F β S H) (r : VR K F β v x) (h : post K cA F β Q v S) : Q x H := h F β H x (Ext.refl F β) s r
end

section
variable {K : PySem.W.Frag} {cA : Str → Addr} {C : Orc} (hC : OrcMono C) {F : Hp} {β : List Addr} {S : Sto} {H : Hp} {Γ : Env} {σ : St} {Wx : WX}
include hC
theorem runE {m : Ex} {R : PV} {E0 : PX} {Q1 : VK} (s : Sim K cA F β S H) (g : EnvR K F β Γ σ) (w : W C m Γ S R E0) (hE : ∀ c S, E0 c S → postX K cA F β Wx σ c S)
    (h : ∀ F' β' S1 H1 v x, Ext F β F' β' → Sim K cA F' β' S1 H1 → VR K F' β' v x → R v S1 → Q1 x H1) : liftE K cA Wx (W C m) σ H Q1 :=
  ⟨F, β, Γ, S, s, g, W_mono hC m _ _ _ _ _ _ (fun v S1 r F' β' H' x e s' vr => h F' β' S1 H' v x e s' vr r) hE w⟩
theorem runB {m : Te} {R : PV} {E0 : PX} {Q1 : VK} (s : Sim K cA F β S H) (g : EnvR K F β Γ σ) (w : WB C m Γ S R E0) (hE : ∀ c S, E0 c S → postX K cA F β Wx σ c S)
    (h : ∀ F' β' S1 H1 v x, Ext F β F' β' → Sim K cA F' β' S1 H1 → VR K F' β' v x → R v S1 → Q1 x H1) : liftE K cA Wx (WB C m) σ H Q1 :=
  ⟨F, β, Γ, S, s, g, WB_mono hC m _ _ _ _ _ _ (fun v S1 r F' β' H' x e s' vr => h F' β' S1 H' v x e s' vr r) hE w⟩
theorem runT {m : Te} {R : Bool → Sto → Prop} {E0 : PX} {Q1 : Bool → Hp → Prop} (s : Sim K cA F β S H) (g : EnvR K F β Γ σ) (w : WT C m Γ S R E0) (hE : ∀ c S, E0 c S → postX K cA F β Wx σ c S)
    (h : ∀ F' β' S1 H1 v, Ext F β F' β' → Sim K cA F' β' S1 H1 → R v S1 → Q1 v H1) : liftT K cA Wx (WT C m) σ H Q1 :=
  ⟨F, β, Γ, S, s, g, WT_mono hC m _ _ _ _ _ _ (fun v S1 r F' β' H' e s' => h F' β' S1 H' v e s' r) hE w⟩
theorem runL {m : Exs} {R : PL} {E0 : PX} {Q1 : List V → Hp → Prop} (s : Sim K cA F β S H) (g : EnvR K F β Γ σ) (w : WL C m Γ S R E0) (hE : ∀ c S, E0 c S → postX K cA F β Wx σ c S)
    (h : ∀ F' β' S1 H1 v x, Ext F β F' β' → Sim K cA F' β' S1 H1 → VRs K F' β' v x → R v S1 → Q1 x H1) : liftL K cA Wx (WL C m) σ H Q1 :=
  ⟨F, β, Γ, S, s, g, WL_mono hC m _ _ _ _ _ _ (fun v S1 r F' β' H' x e s' vr => h F' β' S1 H' v x e s' vr r) hE w⟩
end

section
variable {K : PySem.W.Frag} {cA : Str → Addr} {C : Orc} (hC : OrcMono C) {F : Hp} {β : List Addr} {S : Sto} {H : Hp} {Γ : Env} {σ : St} {Wx : WX}
include hC
theorem runO {m : Oe} {R : Option Int → Sto → Prop} {E0 : PX} {Q1 : Option Int → Hp → Prop} (s : Sim K cA F β S H) (g : EnvR K F β Γ σ) (w : WOe C m Γ S R E0) (hE : ∀ c S, E0 c S → postX K cA F β Wx σ c S)
    (h : ∀ F' β' S1 H1 v, Ext F β F' β' → Sim K cA F' β' S1 H1 → R v S1 → Q1 v H1) : liftO K cA Wx (WOe C m) σ H Q1 :=
  ⟨F, β, Γ, S, s, g, WOe_mono hC m _ _ _ _ _ _ (fun v S1 r F' β' H' e s' => h F' β' S1 H' v e s' r) hE w⟩
theorem runI {m : It} {R : PI_} {E0 : PX} {Q1 : L2.It → Hp → Prop} (s : Sim K cA F β S H) (g : EnvR K F β Γ σ) (w : WI C m Γ S R E0) (hE : ∀ c S, E0 c S → postX K cA F β Wx σ c S)
    (h : ∀ F' β' S1 H1 J xs G, Ext F β F' β' → Sim K cA F' β' S1 H1 → ItOk K cA F' β' J xs G → R xs G S1 → Q1 J H1) : liftI K cA Wx (WI C m) σ H Q1 :=
  ⟨F, β, Γ, S, s, g, WI_mono hC m _ _ _ _ _ _ (fun xs G S1 r F' β' H' J e s' i => h F' β' S1 H' J xs G e s' i r) hE w⟩
end

/-! ### what is laid anew, read -/
section
variable {K : PySem.W.Frag} {cA : Str → Addr} {F : Hp} {β : List Addr} {S : Sto} {H : Hp} {Q : VK}
theorem post_new {xs : List Va} {ys : List V} (s : Sim K cA F β S H) (r : VRs K F β xs ys) (h : post K cA F β Q (.loc S.length) (S ++ [.lst xs])) : ∀ p, H p = none → Q (.ref p) (upd H p (.lst ys)) := fun p hp => by
  have s2 := s.new hp (o := .lst xs) (u := .lst ys) ⟨ys, upd_same, VRs.mono (Same.refl _) (List.prefix_append _ _) _ _ r⟩
  refine h _ _ _ _ ⟨Same.refl _, List.prefix_append _ _⟩ s2 ⟨p, rfl, ?_⟩
  rw [← s.len]; simp
theorem post_tup {xs : List Va} {ys : List V} (s : Sim K cA F β S H) (r : VRs K F β xs ys) (h : post K cA F β Q (.tup xs) S) : ∀ p, H p = none → Q (.ref p) (upd H p (.tup ys)) := fun p hp => by
  obtain ⟨s2, sb⟩ := s.lay hp (.tup ys)
  exact h _ _ _ _ ⟨sb, List.prefix_refl _⟩ s2 ⟨p, ys, rfl, SqT.of upd_same, VRs.mono sb (List.prefix_refl _) _ _ r⟩
theorem VRs.rep {K : PySem.W.Frag} {F : Hp} {β : List Addr} {xs : List Va} {ys : List V} (h : VRs K F β xs ys) : ∀ n : Nat, VRs K F β (List.replicate n xs).flatten (List.replicate n ys).flatten
  | 0 => rfl
  | n + 1 => by
    rw [List.replicate_succ, List.flatten_cons, List.replicate_succ, List.flatten_cons]
    exact h.append (VRs.rep h n)
theorem LV.ok {v : Va} {x : V} {xs : List Va} (s : Sim K cA F β S H) (h : LV S v xs) (r : VR K F β v x) : ∃ a ys, x = .ref a ∧ H a = some (.lst ys) ∧ VRs K F β xs ys := by
  rcases h with rfl | ⟨k, rfl, hk⟩
  · obtain ⟨a, ys, rfl, t, q⟩ := r
    exact ⟨a, ys, rfl, s.sub _ _ t, q⟩
  · obtain ⟨a, rfl, t⟩ := r
    obtain ⟨b, e1, _, ys, e2, q⟩ := s.at hk
    rw [t] at e1
    cases (Option.some.inj e1)
    exact ⟨a, ys, rfl, e2, q⟩
theorem flat_ok {v : Va} {x : V} (h : flat v = true) (r : VR K F β v x) : flatV x = true := by
  cases v <;> first | (cases r; rfl) | cases h
theorem flats_ok : ∀ {xs : List Va} {ys : List V}, xs.all flat = true → VRs K F β xs ys → ys.all flatV = true
  | [], _, _, r => by cases (show _ = [] from r); rfl
  | x :: xs, _, h, ⟨y, t, e, q, qs⟩ => by
    subst e
    rw [List.all_cons, Bool.and_eq_true] at h ⊢
    exact ⟨flat_ok h.1 q, flats_ok h.2 qs⟩
theorem eqW_ok {v u : Va} {x y : V} (h1 : flat v = true) (h2 : flat u = true) (r1 : VR K F β v x) (r2 : VR K F β u y) : eqV x y = eqW v u := by
  cases v <;> cases u <;> first | exact (Bool.false_ne_true h1).elim | exact (Bool.false_ne_true h2).elim | (cases r1; cases r2; rfl)
theorem inW_ok {u : Va} {y : V} (h2 : flat u = true) (r2 : VR K F β u y) : ∀ {xs : List Va} {ys : List V}, xs.all flat = true → VRs K F β xs ys → inV y ys = xs.any fun z => eqW z u
  | [], _, _, r => by cases (show _ = [] from r); rfl
  | x :: xs, _, h, ⟨z, t, e, q, qs⟩ => by
    subst e
    rw [List.all_cons, Bool.and_eq_true] at h
    have ih := inW_ok h2 r2 h.2 qs
    unfold inV at ih ⊢
    rw [List.any_cons, List.any_cons, ih, eqW_ok h.1 h2 q r2]
theorem str1 {x : Str} (h : x.length = 1) : x = ⟨#[x.cps.getD 0 0]⟩ := by
  obtain ⟨⟨l⟩⟩ := x
  match l, h with
  | [c], _ => rfl
end

/-! ### dicts, objects -/
theorem kV_keyV {K : PySem.W.Frag} {F : Hp} {β : List Addr} {v : Va} {x : V} {k : Key} (h : keyV v = some k) (r : VR K F β v x) : x = kV k := by
  cases v <;> first | (cases h; done) | (cases h; exact r)
theorem keyA_ok {K : PySem.W.Frag} {F : Hp} {β : List Addr} (k : Key) : VR K F β (keyA k) (kV k) := by
  cases k <;> rfl
section
variable {K : PySem.W.Frag} {cA : Str → Addr} {F : Hp} {β : List Addr} {S : Sto} {H : Hp} {Q : VK}
theorem dget_cons {k' k : Key} {v : Va} {r : List (Key × Va)} : dget ((k', v) :: r) k = if k' = k then some v else dget r k := by
  unfold dget
  by_cases h : k' = k
  · rw [List.find?_cons, if_pos h]; simp [h]
  · rw [List.find?_cons, if_neg h]; simp [h]
theorem VRk.val : ∀ {kvs : List (Key × Va)} {ys : List (Key × V)} (k : Key), VRk K F β kvs ys → (∀ v, dget kvs k = some v → ∃ y, valV ys k = some y ∧ VR K F β v y) ∧ (dget kvs k = none → valV ys k = none)
  | [], _, k, h => by cases (show _ = [] from h); exact ⟨fun _ e => (by cases e), fun _ => rfl⟩
  | (k', v) :: r, _, k, ⟨y, t, e, q, qs⟩ => by
    subst e
    obtain ⟨i1, i2⟩ := VRk.val k qs
    rw [dget_cons]
    by_cases h : k' = k
    · rw [if_pos h, valV_pos (p := (k', y)) h]
      exact ⟨fun u e => by cases e; exact ⟨y, rfl, q⟩, fun e => by cases e⟩
    · rw [if_neg h, valV_neg (p := (k', y)) h]
      exact ⟨i1, i2⟩
theorem VRk.keys : ∀ {kvs : List (Key × Va)} {ys : List (Key × V)}, VRk K F β kvs ys → ys.map (·.1) = kvs.map (·.1)
  | [], _, h => by cases (show _ = [] from h); rfl
  | (k', v) :: r, _, ⟨y, t, e, q, qs⟩ => by subst e; simp [VRk.keys qs]
theorem VRk.len {kvs : List (Key × Va)} {ys : List (Key × V)} (h : VRk K F β kvs ys) : kvs.length = ys.length := by
  have := congrArg List.length h.keys
  simpa using this.symm
theorem VRk.app : ∀ {kvs : List (Key × Va)} {ys : List (Key × V)} {k : Key} {v : Va} {y : V}, VRk K F β kvs ys → VR K F β v y → VRk K F β (kvs ++ [(k, v)]) (ys ++ [(k, y)])
  | [], _, k, v, y, h, q => by cases (show _ = [] from h); exact ⟨y, [], rfl, q, rfl⟩
  | (k', u) :: r, _, k, v, y, ⟨z, t, e, q', qs⟩, q => by subst e; exact ⟨z, _, rfl, q', VRk.app qs q⟩
theorem VRk.mapP {k : Key} {v : Va} {y : V} (q : VR K F β v y) : ∀ {kvs : List (Key × Va)} {ys : List (Key × V)}, VRk K F β kvs ys → VRk K F β (kvs.map fun kv => if kv.1 = k then (kv.1, v) else kv) (ys.map fun kv => if kv.1 = k then (kv.1, y) else kv)
  | [], _, h => by cases (show _ = [] from h); rfl
  | (k', u) :: r, _, ⟨z, t, e, q', qs⟩ => by
    subst e
    by_cases h : k' = k
    · simp only [List.map_cons, if_pos h]; exact ⟨y, _, rfl, q, VRk.mapP q qs⟩
    · simp only [List.map_cons, if_neg h]; exact ⟨z, _, rfl, q', VRk.mapP q qs⟩
theorem VRk.put {k : Key} {v : Va} {y : V} {kvs : List (Key × Va)} {ys : List (Key × V)} (h : VRk K F β kvs ys) (q : VR K F β v y) : VRk K F β (dput kvs k v) (putK ys k y) := by
  have e : (ys.any fun kv => decide (kv.1 = k)) = kvs.any fun kv => decide (kv.1 = k) := by
    have e1 : (ys.map (·.1)).any (fun z => decide (z = k)) = (kvs.map (·.1)).any (fun z => decide (z = k)) := by rw [h.keys]
    simpa [List.any_map, Function.comp_def] using e1
  unfold dput putK
  rw [e]
  split
  · exact VRk.mapP q h
  · exact VRk.app h q
theorem VRk.drop {k : Key} : ∀ {kvs : List (Key × Va)} {ys : List (Key × V)}, VRk K F β kvs ys → VRk K F β (ddrop kvs k) (dropK ys k)
  | [], _, h => by cases (show _ = [] from h); rfl
  | (k', u) :: r, _, ⟨z, t, e, q', qs⟩ => by
    subst e
    have ih := VRk.drop (k := k) qs
    unfold ddrop dropK at ih ⊢
    by_cases h : k' = k
    · rw [List.filter_cons_of_neg (by simp [h]), List.filter_cons_of_neg (by simp [h])]; exact ih
    · rw [List.filter_cons_of_pos (by simp [h]), List.filter_cons_of_pos (by simp [h])]; exact ⟨z, _, rfl, q', ih⟩
theorem VRk.merge : ∀ {more : List (Key × Va)} {ms : List (Key × V)} {kvs : List (Key × Va)} {ys : List (Key × V)}, VRk K F β more ms → VRk K F β kvs ys → VRk K F β (mergeA kvs more) (mergeK ys ms)
  | [], _, _, _, h, q => by cases (show _ = [] from h); exact q
  | (k', u) :: r, _, _, _, ⟨z, t, e, q', qs⟩, q => by
    subst e
    show VRk K F β (mergeA (dput _ k' u) r) (mergeK (putK _ k' z) t)
    exact VRk.merge qs (VRk.put q q')
theorem LD.ok {v : Va} {x : V} {kvs : List (Key × Va)} (s : Sim K cA F β S H) (h : LD S v kvs) (r : VR K F β v x) : ∃ a ys, x = .ref a ∧ H a = some (.dK ys) ∧ VRk K F β kvs ys := by
  rcases h with rfl | ⟨k, rfl, hk⟩
  · obtain ⟨a, ys, rfl, t, q⟩ := r
    exact ⟨a, ys, rfl, s.sub _ _ t, q⟩
  · obtain ⟨a, rfl, t⟩ := r
    obtain ⟨b, e1, _, ys, e2, q⟩ := s.at hk
    rw [t] at e1
    cases (Option.some.inj e1)
    exact ⟨a, ys, rfl, e2, q⟩
/-- a dict's pairs, a locked one's too -/
def LR (S : Sto) (v : Va) (kvs : List (Key × Va)) : Prop := LD S v kvs ∨ ∃ k, v = .loc k ∧ S[k]? = some (.lok kvs)
theorem LR.ok {v : Va} {x : V} {kvs : List (Key × Va)} (s : Sim K cA F β S H) (h : LR S v kvs) (r : VR K F β v x) : ∃ a ys, x = .ref a ∧ Rd H a (.dK ys) ∧ VRk K F β kvs ys := by
  rcases h with h | ⟨k, rfl, hk⟩
  · obtain ⟨a, ys, e, e2, q⟩ := h.ok s r
    exact ⟨a, ys, e, .inl e2, q⟩
  · obtain ⟨a, rfl, t⟩ := r
    obtain ⟨b, e1, _, od, ys, e2, q⟩ := s.at hk
    rw [t] at e1
    cases (Option.some.inj e1)
    exact ⟨a, ys, rfl, .inr ⟨od, s.sub _ _ e2⟩, q⟩
theorem VRf.get : ∀ {fs : List (Str × Va)} {ys : List (Str × V)} {f : Str}, VRf K F β fs ys → (∀ v, fs.lookup f = some v → ∃ y, ys.lookup f = some y ∧ VR K F β v y) ∧ (fs.lookup f = none → ys.lookup f = none)
  | [], _, f, h => by cases (show _ = [] from h); exact ⟨fun _ e => (by cases e), fun _ => rfl⟩
  | (k, v) :: r, _, f, ⟨y, t, e, q, qs⟩ => by
    subst e
    obtain ⟨i1, i2⟩ := VRf.get (f := f) qs
    rw [List.lookup_cons, List.lookup_cons]
    cases f == k with
    | true => exact ⟨fun u e => by cases e; exact ⟨y, rfl, q⟩, fun e => by cases e⟩
    | false => exact ⟨i1, i2⟩
theorem VRf.put {f : Str} {v : Va} {y : V} (q : VR K F β v y) : ∀ {fs : List (Str × Va)} {ys : List (Str × V)}, VRf K F β fs ys → VRf K F β (putFA f v fs) (putF f y ys)
  | [], _, h => by cases (show _ = [] from h); exact ⟨y, [], rfl, q, rfl⟩
  | (k, u) :: r, _, ⟨z, t, e, q', qs⟩ => by
    subst e
    unfold putFA putF
    by_cases h : k = f
    · rw [if_pos h, if_pos h]; exact ⟨y, _, rfl, q, qs⟩
    · rw [if_neg h, if_neg h]; exact ⟨z, _, rfl, q', VRf.put q qs⟩
theorem VRf.len : ∀ {fs : List (Str × Va)} {ys : List (Str × V)}, VRf K F β fs ys → fs.length = ys.length
  | [], _, h => by cases (show _ = [] from h); rfl
  | (k, u) :: r, _, ⟨z, t, e, q', qs⟩ => by subst e; simp [VRf.len qs]
/-- an object of the store, at its address -/
theorem ins_ok {k : Nat} {x : V} {c : Str} {fs : List (Str × Va)} (s : Sim K cA F β S H) (hk : S[k]? = some (.ins c fs)) (r : VR K F β (.loc k) x) : ∃ a dx ys, x = .ref a ∧ β[k]? = some a ∧ F a = none ∧ H a = some (.ins (cA c) dx ys) ∧ VRf K F β fs ys := by
  obtain ⟨a, rfl, t⟩ := r
  obtain ⟨b, e1, fa, dx, ys, e2, q⟩ := s.at hk
  rw [t] at e1
  cases (Option.some.inj e1)
  exact ⟨a, dx, ys, rfl, t, fa, e2, q⟩
theorem dct_ok {k : Nat} {x : V} {kvs : List (Key × Va)} (s : Sim K cA F β S H) (hk : S[k]? = some (.dct kvs)) (r : VR K F β (.loc k) x) : ∃ a ys, x = .ref a ∧ β[k]? = some a ∧ F a = none ∧ H a = some (.dK ys) ∧ VRk K F β kvs ys := by
  obtain ⟨a, rfl, t⟩ := r
  obtain ⟨b, e1, fa, ys, e2, q⟩ := s.at hk
  rw [t] at e1
  cases (Option.some.inj e1)
  exact ⟨a, ys, rfl, t, fa, e2, q⟩
theorem put_dct {k : Nat} {a : Addr} {o : Ob} {kvs : List (Key × Va)} {ys : List (Key × V)} (s : Sim K cA F β S H) (hk : S[k]? = some o) (ha : β[k]? = some a) (r : VRk K F β kvs ys) (no : ∀ q, o ≠ .lok q := by intro _ h; cases h) : Sim K cA F β (S.set k (.dct kvs)) (upd H a (.dK ys)) := by
  obtain ⟨b, e1, fa, _⟩ := s.at hk
  rw [ha] at e1
  cases e1
  exact s.put (lt_of_get hk) ha (fa.out no) ⟨ys, upd_same, r⟩
theorem put_ins {k : Nat} {a dx : Addr} {o : Ob} {c : Str} {fs : List (Str × Va)} {ys : List (Str × V)} (s : Sim K cA F β S H) (hk : S[k]? = some o) (ha : β[k]? = some a) (r : VRf K F β fs ys) (no : ∀ q, o ≠ .lok q := by intro _ h; cases h) : Sim K cA F β (S.set k (.ins c fs)) (upd H a (.ins (cA c) dx ys)) := by
  obtain ⟨b, e1, fa, _⟩ := s.at hk
  rw [ha] at e1
  cases e1
  exact s.put (lt_of_get hk) ha (fa.out no) ⟨dx, ys, upd_same, r⟩
theorem post_dct {kvs : List (Key × Va)} {ys : List (Key × V)} (s : Sim K cA F β S H) (r : VRk K F β kvs ys) (h : post K cA F β Q (.loc S.length) (S ++ [.dct kvs])) : ∀ p, H p = none → Q (.ref p) (upd H p (.dK ys)) := fun p hp => by
  have s2 := s.new hp (o := .dct kvs) (u := .dK ys) ⟨ys, upd_same, VRk.mono (Same.refl _) (List.prefix_append _ _) _ _ r⟩
  refine h _ _ _ _ ⟨Same.refl _, List.prefix_append _ _⟩ s2 ⟨p, rfl, ?_⟩
  rw [← s.len]; simp
/-- a new instance, its own dict first -/
theorem new_ins (s : Sim K cA F β S H) (c : Str) {x dx : Addr} (hx : H x = none) (hdx : H dx = none) (ne : dx ≠ x) : ∃ F', Ext F β F' (β ++ [x]) ∧ Sim K cA F' (β ++ [x]) (S ++ [.ins c []]) (upd (upd H dx (.own x)) x (.ins (cA c) dx [])) := by
  obtain ⟨s1, sb⟩ := s.lay hdx (.own x)
  have hx1 : upd H dx (.own x) x = none := by rw [upd_ne (Ne.symm ne)]; exact hx
  have s2 := s1.new hx1 (o := .ins c []) (u := .ins (cA c) dx []) ⟨dx, [], upd_same, rfl⟩
  exact ⟨_, ⟨sb, List.prefix_append _ _⟩, s2⟩
end
section
variable {X : Cx}
theorem op_din (hu : X.A.units + 1 < cLine) : OpR X (compareOp .In) (fun y x H Q => ∃ a o, x = .ref a ∧ DGet H a y o ∧ Q (.bl o.isSome) H) := by
  intro pins s σ H y x u v Q I ry rx ⟨a, o, e, g, q⟩
  subst e
  cases rx
  exact d_in hu I g ry fun s' I' => ⟨.bl _, H, I', rfl, q⟩
theorem op_dnotin (hu : X.A.units + 1 < cLine) : OpR X (compareOp .NotIn) (fun y x H Q => ∃ a o, x = .ref a ∧ DGet H a y o ∧ Q (.bl (!o.isSome)) H) := by
  intro pins s σ H y x u v Q I ry rx ⟨a, o, e, g, q⟩
  subst e
  cases rx
  exact d_notIn hu I g ry fun s' I' => ⟨.bl _, H, I', rfl, q⟩
end

/-! ### operators by values -/
section
variable {X : Cx} {cA : Str → Addr}
theorem CMulA.ok {i j : Int} (h : CMulA i j) : IntMulOk i j := by
  have b : ∀ x : Int, Builtin.Int.intBits x ≤ x.natAbs.log2 + 1 := fun x => by
    unfold Builtin.Int.intBits
    split <;> omega
  have h1 := b i
  have h2 := b j
  have h3 : i.natAbs.log2 + j.natAbs.log2 < 134000000 := h
  have e : bitsLine = 134217728 := by decide
  unfold IntMulOk
  intro z
  rw [Bool.and_eq_true] at z
  have z2 := z.2
  unfold Builtin.Int.intTooBig at z2
  have z3 := of_decide_eq_true z2
  rw [e] at z3
  omega
theorem op_mulA : OpR X (binaryOp .Mult) (rI CMulA fun i j => .int (i * j)) := opI fun _ _ _ _ _ _ _ hc q => PyProof.Rows.mul_int q hc.ok
theorem op_fdivA : OpR X (binaryOp .FloorDiv) (rI (fun _ j => CDivA j) fun i j => .int (i.fdiv j)) := opI fun i j _ _ _ _ _ hc q => PyProof.Rows.floordiv_int hc.1 q (.inl (PyProof.noPylong_of_log2 hc.2))
/-- a text, taken so many times -/
def rStrRep : R2 := fun x y H Q => ∃ z i, x = .str z ∧ y = .int i ∧ 2 ≤ i ∧ i < 2 ^ 31 ∧ 0 < z.length ∧ z.length * i.toNat ≤ 1000000 ∧ Q (.str ⟨(List.replicate i.toNat z.cps).foldl (· ++ ·) #[]⟩) H
theorem fold_cps (a : Array Nat) : ∀ (n : Nat) (b : Array Nat), ((List.replicate n a).foldl (· ++ ·) b).size = b.size + n * a.size := by
  intro n
  induction n with
  | zero => intro b; simp
  | succ n ih =>
    intro b
    rw [List.replicate_succ, List.foldl_cons, ih, Array.size_append, Nat.succ_mul]
    omega
theorem op_strRep : OpR X (binaryOp .Mult) rStrRep := by
  intro pins s σ H x y v u Q I rx ry h
  obtain ⟨z, i, rfl, rfl, h1, h2, h3, h4, q⟩ := h
  obtain ⟨t, rfl⟩ := rx
  obtain ⟨t', rfl⟩ := ry
  have e1 : (decide (i < -(2 ^ 63 : Int)) || decide (i ≥ 2 ^ 63)) = false := by
    rw [decide_eq_false (by omega), decide_eq_false (by omega)]; rfl
  have e2 : (i == 1 || z.length == 0) = false := by
    rw [Bool.or_eq_false_iff]
    exact ⟨by simp; omega, by simp; omega⟩
  have hz : z.length ≤ 1000000 := Nat.le_trans (Nat.le_mul_of_pos_right _ (by omega)) h4
  refine PySem.P.mul_str e1 (fun _ _ => ?_) (fun _ _ => ?_) ?_
  · have : (1000000 : Int) ≤ (2 ^ 63 - 1) / i := by
      refine Int.le_ediv_of_mul_le (by omega) ?_
      omega
    omega
  · unfold Builtin.Str.tooLong
    rw [decide_eq_false]
    have : sizeLine = 16777216 := by decide
    omega
  · rw [if_neg (by omega), if_neg (by rw [e2]; decide)]
    refine ⟨?_, ⟨.str _, H, I.tok _, ⟨_, rfl⟩, q⟩⟩
    show Array.size _ ≤ _
    rw [fold_cps]
    have : sizeLine = 16777216 := by decide
    have e3 : z.cps.size = z.length := rfl
    rw [e3, Nat.mul_comm]
    simp
    omega
/-- what an operator's rule must give -/
def OpS (X : Cx) (cA : Str → Addr) (g : Va → Va → Sto → PV → Prop) (r : R2) : Prop := ∀ (F : Hp) (β : List Addr) (S : Sto) (H : Hp) (v u : Va) (x y : V) (Q : VK), Sim X.K cA F β S H → VR X.K F β v x → VR X.K F β u y → g v u S (post X.K cA F β Q) → r x y H Q
theorem bin_ok {op : Bop} {op' : Operator} (h : bopB op op' = true) : ∃ r, OpR X (binaryOp op') r ∧ OpS X cA (wBin op) r := by
  unfold bopB at h
  split at h
  · refine ⟨_, ((op_add.or op_add_str).or op_cat).or op_catA, fun F β S H v u x y Q s r1 r2 q => ?_⟩
    have cat : ∀ {v u : Va}, VR X.K F β v x → VR X.K F β u y → wCat v u S (post X.K cA F β Q) → rCat x y H Q := fun r1 r2 ⟨xs, h1, ys, h2, h3, q⟩ => by
      obtain ⟨a, zs, rfl, t1, q1⟩ := h1.ok s r1
      obtain ⟨b, ws, rfl, t2, q2⟩ := h2.ok s r2
      exact ⟨a, b, zs, ws, rfl, rfl, t1, t2, by rw [← q1.len, ← q2.len]; exact Nat.le_trans h3 (by decide), post_new s (q1.append q2) q⟩
    unfold wBin at q
    split at q <;> first | exact q.elim | skip
    all_goals simp only [reduceCtorEq] at *
    · cases r1; cases r2; exact .inl (.inl (.inl ⟨_, _, rfl, rfl, post_here (v := .int _) s rfl q⟩))
    · cases r1; cases r2; exact .inl (.inl (.inr ⟨_, _, rfl, rfl, q.1, post_here (v := .str _) s rfl q.2⟩))
    · exact .inl (.inr (cat r1 r2 q))
    · exact .inl (.inr (cat r1 r2 q))
    · obtain ⟨h2, q⟩ := q
      obtain ⟨a, zs, rfl, t1, q1⟩ := r1
      obtain ⟨b, ws, rfl, t2, q2⟩ := r2
      refine .inr ⟨a, b, zs, ws, rfl, rfl, SqT.mono s.sub t1, SqT.mono s.sub t2, by rw [← q1.len, ← q2.len]; exact Nat.le_trans h2 (by decide), ?_, ?_, ?_⟩
      · intro e; subst e
        have e1 := q1.len
        have e3 := List.eq_nil_of_length_eq_zero (show List.length _ = 0 from e1)
        subst e3
        rw [List.nil_append] at q
        exact q F β H _ (Ext.refl _ _) s ⟨b, ws, rfl, t2, q2⟩
      · intro _ e; subst e
        have e2 := q2.len
        have e3 := List.eq_nil_of_length_eq_zero (show List.length _ = 0 from e2)
        subst e3
        rw [List.append_nil] at q
        exact q F β H _ (Ext.refl _ _) s ⟨a, zs, rfl, t1, q1⟩
      · intro _ _
        exact post_tup s (q1.append q2) q
  · refine ⟨_, op_sub, fun F β S H v u x y Q s r1 r2 q => ?_⟩
    unfold wBin at q
    split at q <;> first | exact q.elim | skip
    all_goals simp only [reduceCtorEq] at *
    · cases r1; cases r2; exact ⟨_, _, rfl, rfl, post_here (v := .int _) s rfl q⟩
  · refine ⟨_, (op_mulA.or op_rep).or op_strRep, fun F β S H v u x y Q s r1 r2 q => ?_⟩
    unfold wBin at q
    split at q <;> first | exact q.elim | skip
    all_goals simp only [reduceCtorEq] at *
    · cases r1; cases r2; exact .inl (.inl ⟨_, _, rfl, rfl, q.1, post_here (v := .int _) s rfl q.2⟩)
    · cases r2
      obtain ⟨xs, h0, h1, h2, h3, q⟩ := q
      obtain ⟨a, zs, rfl, t1, q1⟩ := LV.ok s (.inr ⟨_, rfl, h0⟩) r1
      exact .inl (.inr ⟨a, _, zs, rfl, rfl, t1, Int.le_trans (by decide) h1, Int.lt_trans h2 (by decide), by rw [← q1.len]; exact Nat.le_trans h3 (by decide), post_new s (q1.rep _) q⟩)
    · cases r1; cases r2; obtain ⟨h1, h2, h3, h4, q⟩ := q; exact .inr ⟨_, _, rfl, rfl, h1, h2, h3, h4, post_here (v := .str _) s rfl q⟩
  · refine ⟨_, op_fdivA, fun F β S H v u x y Q s r1 r2 q => ?_⟩
    unfold wBin at q
    split at q <;> first | exact q.elim | skip
    all_goals simp only [reduceCtorEq] at *
    · cases r1; cases r2; exact ⟨_, _, rfl, rfl, q.1, post_here (v := .int _) s rfl q.2⟩
  · refine ⟨_, op_modN, fun F β S H v u x y Q s r1 r2 q => ?_⟩
    unfold wBin at q
    split at q <;> first | exact q.elim | skip
    all_goals simp only [reduceCtorEq] at *
    · cases r1; cases r2; exact ⟨_, _, rfl, rfl, q.1, post_here (v := .int _) s rfl q.2⟩
  · refine ⟨_, op_pow, fun F β S H v u x y Q s r1 r2 q => ?_⟩
    unfold wBin at q
    split at q <;> first | exact q.elim | skip
    all_goals simp only [reduceCtorEq] at *
    · cases r1; cases r2; exact ⟨_, _, rfl, rfl, q.1, post_here (v := .int _) s rfl q.2⟩
  · cases h
end

/-! ### comparisons -/
section
variable {K : PySem.W.Frag} {cA : Str → Addr} {F : Hp} {β : List Addr} {S : Sto} {H : Hp}
mutual
theorem DV.dp (s : Sim K cA F β S H) : ∀ {v : Va} {d : PyData}, DV S v d → ∀ {x : V}, VR K F β v x → Dp K H x d
  | _, _, .non, x, r => by cases (show x = .non from r); exact .non
  | _, _, .bl b, x, r => by cases (show x = .bl b from r); exact .bl b
  | _, _, .int i, x, r => by cases (show x = .int i from r); exact .int i
  | _, _, .str z, x, r => by cases (show x = .str z from r); exact .str z
  | _, _, .tup q, x, ⟨a, ys, e, t, r⟩ => by subst e; exact .tup (SqT.mono s.sub t) (DVs.dp s q r)
  | _, _, .lst q, x, ⟨a, ys, e, t, r⟩ => by subst e; exact .lst (SqL.of (s.sub _ _ t)) (DVs.dp s q r)
  | _, _, .loc hk q, x, ⟨a, e, t⟩ => by
    subst e
    obtain ⟨b, e1, _, ys, e2, r⟩ := s.at hk
    rw [t] at e1
    cases (Option.some.inj e1)
    exact .lst (SqL.of e2) (DVs.dp s q r)
theorem DVs.dp (s : Sim K cA F β S H) : ∀ {v : List Va} {d : List PyData}, DVs S v d → ∀ {x : List V}, VRs K F β v x → DpAll K H x d
  | _, _, .nil, x, r => by cases (show x = [] from r); exact .nil
  | _, _, .cons q qs, x, ⟨y, t, e, r, rs⟩ => by subst e; exact .cons (DV.dp s q r) (DVs.dp s qs rs)
end
theorem scal_ok {v u : Va} {x y : V} (h : scal v u = true) (r1 : VR K F β v x) (r2 : VR K F β u y) : L2.scal x y = true ∧ decide (x = y) = eqF v u := by
  unfold scal at h
  split at h
  · cases r1; cases r2; exact ⟨rfl, by simp [eqF]⟩
  · cases r1; cases r2; exact ⟨rfl, by simp [eqF]⟩
  · cases r1; cases r2; exact ⟨rfl, by simp [eqF]⟩
  · cases r1; cases r2; exact ⟨rfl, by simp [eqF]⟩
  · cases h
theorem isNon_ok {v : Va} {x : V} (r : VR K F β v x) : decide (x = .non) = isNon v := by
  cases v with
  | non => cases r; rfl
  | bl b => cases r; rfl
  | int i => cases r; rfl
  | str z => cases r; rfl
  | tup xs => obtain ⟨a, _, rfl, _⟩ := r; rfl
  | lst xs => obtain ⟨a, _, rfl, _⟩ := r; rfl
  | dct xs => obtain ⟨a, _, rfl, _⟩ := r; rfl
  | loc n => obtain ⟨a, rfl, _⟩ := r; rfl
  | scr n => obtain ⟨a, rfl, _⟩ := r; rfl
  | exc a => cases r; rfl
  | fnv z ws => obtain ⟨rfl, _, _⟩ := r; rfl
end
theorem VRk.mem : ∀ {kvs : List (Key × Va)} {ys : List (Key × V)}, VRk K F β kvs ys → ∀ p ∈ ys, ∃ q ∈ kvs, q.1 = p.1 ∧ VR K F β q.2 p.2
  | [], _, h, p, hp => by cases (show _ = [] from h); cases hp
  | (k', u) :: r, _, ⟨z, t, e, q, qs⟩, p, hp => by
    subst e
    rcases List.mem_cons.mp hp with rfl | hp
    · exact ⟨_, List.mem_cons_self, rfl, q⟩
    · obtain ⟨w, h1, h2⟩ := VRk.mem qs p hp
      exact ⟨w, List.mem_cons_of_mem _ h1, h2⟩
/-- pairs alike, at the heap's side -/
def AlikeK (K : PySem.W.Frag) (H : Hp) (ks ls : List (Key × V)) : Prop := ∀ p ∈ ks, ∃ z d, valV ls p.1 = some z ∧ Dp K H p.2 d ∧ Dp K H z d ∧ SeqAt.shaped d = true ∧ PyData.eqv d d = true
theorem DEq.ok {v u : Va} {x y : V} (s : Sim K cA F β S H) (h : DEq S v u) (r1 : VR K F β v x) (r2 : VR K F β u y) : ∃ a b ks ls, x = .ref a ∧ y = .ref b ∧ H a = some (.dK ks) ∧ H b = some (.dK ls) ∧ ks.length = ls.length ∧ AlikeK K H ks ls := by
  obtain ⟨ks, ls, h1, h2, hn, hp⟩ := h
  obtain ⟨a, ys, e1, t1, q1⟩ := h1.ok s r1
  obtain ⟨b, zs, e2, t2, q2⟩ := h2.ok s r2
  refine ⟨a, b, ys, zs, e1, e2, t1, t2, by rw [← q1.len, ← q2.len]; exact hn, fun p hm => ?_⟩
  obtain ⟨q, m, ek, rv⟩ := VRk.mem q1 p hm
  obtain ⟨z, g, d, d1, d2, d3, d4⟩ := hp q m
  obtain ⟨w, g2, rw2⟩ := (q2.val q.1).1 z g
  exact ⟨w, d, by rw [← ek]; exact g2, DV.dp s d1 rv, DV.dp s d2 rw2, d3, d4⟩
section
variable {X : Cx} {pins : List (Addr × Obj)} {σ : St} {H : Hp} {s : Shared}
theorem alike_hits (hu : X.A.units + 65 < cLine) (I : Inv X pins σ H s) {ls : List (Key × V)} {lb : List (Key × Value)} (rb : KV ls lb) : ∀ {ks : List (Key × V)} {ka : List (Key × Value)}, KV ks ka → AlikeK X.K H ks ls → PySem.W.KeqHits X.A.in1 s lb ka true
  | _, _, .nil, _ => .nil
  | _, _, .cons (b := w) r1 r2, h => by
    obtain ⟨z, d, g, d1, d2, d3, d4⟩ := h _ List.mem_cons_self
    have t := alike_hits hu I rb r2 fun p m => h p (List.mem_cons_of_mem _ m)
    obtain ⟨k, o⟩ := w
    obtain ⟨e, ro⟩ := r1
    have e' := (show _ = k from e)
    have rz := rb.val k
    rw [← e', g] at rz
    obtain ⟨zo, gz, rzo⟩ := rz.some_of
    rw [e'] at gz
    obtain ⟨as, p1⟩ := Dp.reads I d _ _ d1 ro
    obtain ⟨bs, p2⟩ := Dp.reads I d _ _ d2 rzo
    have q := PySem.W.KeqHits.hit gz (PySem.W.keq_at (A := X.A) p1 p2 d3 d3 (by show X.A.units + 1 + 64 < cLine; omega)) t
    rw [d4] at q
    exact q
end
section
variable {X : Cx}
theorem op_eqDD (hu : X.A.units + 65 < cLine) : OpR X (compareOp .Eq) (fun x y H Q => ∃ a b ks ls, x = .ref a ∧ y = .ref b ∧ H a = some (.dK ks) ∧ H b = some (.dK ls) ∧ ks.length = ls.length ∧ AlikeK X.K H ks ls ∧ Q (.bl true) H) := by
  intro pins s σ H x y v u Q I rx ry ⟨a, b, ks, ls, e1, e2, h1, h2, hn, hl, q⟩
  subst e1; subst e2
  cases rx; cases ry
  obtain ⟨_, low1, ka, k1, o1⟩ := I.hok a _ h1
  obtain ⟨_, low2, kb, k2, o2⟩ := I.hok b _ h2
  have len : ka.length = kb.length := by have := k1.length; have := k2.length; omega
  refine PySem.W.keq_eq (knd := mixKind X.prog X.w) low1 low2 o1 o2 (by omega) (fun _ => alike_hits hu I k2 k1 hl) ?_
  rw [len]
  exact fin_bl I q (by simp)
theorem op_neDD (hu : X.A.units + 65 < cLine) : OpR X (compareOp .NotEq) (fun x y H Q => ∃ a b ks ls, x = .ref a ∧ y = .ref b ∧ H a = some (.dK ks) ∧ H b = some (.dK ls) ∧ ks.length = ls.length ∧ AlikeK X.K H ks ls ∧ Q (.bl false) H) := by
  intro pins s σ H x y v u Q I rx ry ⟨a, b, ks, ls, e1, e2, h1, h2, hn, hl, q⟩
  subst e1; subst e2
  cases rx; cases ry
  obtain ⟨_, low1, ka, k1, o1⟩ := I.hok a _ h1
  obtain ⟨_, low2, kb, k2, o2⟩ := I.hok b _ h2
  have len : ka.length = kb.length := by have := k1.length; have := k2.length; omega
  refine PySem.W.keq_ne (knd := mixKind X.prog X.w) low1 low2 o1 o2 (by omega) (fun _ => alike_hits hu I k2 k1 hl) ?_
  rw [len]
  exact fin_bl I q (by simp)
end
section
variable {X : Cx}
def rLtD (K : PySem.W.Frag) : R2 := fun x y H Q => ∃ d e, Dp K H x d ∧ Dp K H y e ∧ PySem.W.alike d e = true ∧ d.depth ≤ 60 ∧ d ≠ .none ∧ Q (.bl (PySem.W.dataLt d e)) H
def rGtD (K : PySem.W.Frag) : R2 := fun x y H Q => ∃ d e, Dp K H x d ∧ Dp K H y e ∧ PySem.W.alike d e = true ∧ d.depth ≤ 60 ∧ d ≠ .none ∧ Q (.bl (PySem.W.dataLt e d)) H
theorem op_ltD (hu : X.A.units + 65 < cLine) : OpR X (compareOp .Lt) (rLtD X.K) := by
  intro pins s σ H x y v u Q I rx ry ⟨d, e, hd, he, ha, hl, hn, q⟩
  obtain ⟨as, r1⟩ := Dp.reads I d x v hd rx
  obtain ⟨bs, r2⟩ := Dp.reads I e y u he ry
  exact PySem.W.rcLt_alike d e X.A s v u as bs r1 r2 ha hn (by omega) X.prog X.w X.xe _ ⟨.bl _, H, I, rfl, q⟩
theorem op_gtD (hu : X.A.units + 65 < cLine) : OpR X (compareOp .Gt) (rGtD X.K) := by
  intro pins s σ H x y v u Q I rx ry ⟨d, e, hd, he, ha, hl, hn, q⟩
  obtain ⟨as, r1⟩ := Dp.reads I d x v hd rx
  obtain ⟨bs, r2⟩ := Dp.reads I e y u he ry
  exact PySem.W.rcGt_alike d e X.A s v u as bs r1 r2 ha hn (by omega) X.prog X.w X.xe _ ⟨.bl _, H, I, rfl, q⟩
end
section
variable {X : Cx} {cA : Str → Addr}
theorem cmp_ok {op : Cop} {op' : CmpOp} (hu1 : X.A.units + 65 < cLine) (h : copB op op' = true) : ∃ r, OpR X (compareOp op') r ∧ OpS X cA (wCmp op) r := by
  have hu : X.A.units + 64 < cLine := by omega
  unfold copB at h
  split at h
  · refine ⟨_, (op_eq.or (op_eqDD hu1)).or (op_eqD hu), fun F β S H v u x y Q s r1 r2 q => ?_⟩
    simp only [wCmp] at q
    rcases q with (⟨q1, q2⟩ | ⟨q1, q2⟩) | ⟨d, e, q1, q2, q3, q4, q5⟩
    · obtain ⟨z1, z2⟩ := scal_ok q1 r1 r2
      refine .inl (.inl ⟨z1, ?_⟩)
      rw [z2]
      exact post_here (v := .bl _) s rfl q2
    · obtain ⟨a, b, ks, ls, e1, e2, h1, h2, h3, h4⟩ := DEq.ok s q1 r1 r2
      exact .inl (.inr ⟨a, b, ks, ls, e1, e2, h1, h2, h3, h4, post_here (v := .bl _) s rfl q2⟩)
    · exact .inr ⟨d, e, DV.dp s q1 r1, DV.dp s q2 r2, q3, q4, post_here (v := .bl _) s rfl q5⟩
  · refine ⟨_, (op_ne.or (op_neDD hu1)).or (op_neD hu), fun F β S H v u x y Q s r1 r2 q => ?_⟩
    simp only [wCmp] at q
    rcases q with (⟨q1, q2⟩ | ⟨q1, q2⟩) | ⟨d, e, q1, q2, q3, q4, q5⟩
    · obtain ⟨z1, z2⟩ := scal_ok q1 r1 r2
      refine .inl (.inl ⟨z1, ?_⟩)
      rw [z2]
      exact post_here (v := .bl _) s rfl q2
    · obtain ⟨a, b, ks, ls, e1, e2, h1, h2, h3, h4⟩ := DEq.ok s q1 r1 r2
      exact .inl (.inr ⟨a, b, ks, ls, e1, e2, h1, h2, h3, h4, post_here (v := .bl _) s rfl q2⟩)
    · exact .inr ⟨d, e, DV.dp s q1 r1, DV.dp s q2 r2, q3, q4, post_here (v := .bl _) s rfl q5⟩
  · refine ⟨_, op_lt.or (op_ltD hu1), fun F β S H v u x y Q s r1 r2 q => ?_⟩
    unfold wCmp at q
    split at q <;> first | exact q.elim | skip
    all_goals simp only [reduceCtorEq] at *
    · cases r1; cases r2; exact .inl ⟨_, _, rfl, rfl, post_here (v := .bl _) s rfl q⟩
    · obtain ⟨d, e, q1, q2, q3, q4, q5⟩ := q
      exact .inr ⟨d, e, DV.dp s q1 r1, DV.dp s q2 r2, q3, q4, by cases q1; simp, post_here (v := .bl _) s rfl q5⟩
  · refine ⟨_, op_le, fun F β S H v u x y Q s r1 r2 q => ?_⟩
    unfold wCmp at q
    split at q <;> first | exact q.elim | skip
    all_goals simp only [reduceCtorEq] at *
    cases r1; cases r2; exact ⟨_, _, rfl, rfl, post_here (v := .bl _) s rfl q⟩
  · refine ⟨_, op_gt.or (op_gtD hu1), fun F β S H v u x y Q s r1 r2 q => ?_⟩
    unfold wCmp at q
    split at q <;> first | exact q.elim | skip
    all_goals simp only [reduceCtorEq] at *
    · cases r1; cases r2; exact .inl ⟨_, _, rfl, rfl, post_here (v := .bl _) s rfl q⟩
    · obtain ⟨d, e, q1, q2, q3, q4, q5⟩ := q
      exact .inr ⟨d, e, DV.dp s q1 r1, DV.dp s q2 r2, q3, q4, by cases q1; simp, post_here (v := .bl _) s rfl q5⟩
  · refine ⟨_, op_ge, fun F β S H v u x y Q s r1 r2 q => ?_⟩
    unfold wCmp at q
    split at q <;> first | exact q.elim | skip
    all_goals simp only [reduceCtorEq] at *
    cases r1; cases r2; exact ⟨_, _, rfl, rfl, post_here (v := .bl _) s rfl q⟩
  · refine ⟨_, ((op_in_sign.or (op_inD hu1)).or op_in_seq).or (op_din (by omega)), fun F β S H v u x y Q s r1 r2 q => ?_⟩
    have dic : ∀ {kvs : List (Key × Va)} {kk : Key}, LR S u kvs → keyV v = some kk → post X.K cA F β Q (.bl (dget kvs kk).isSome) S → ∃ a o, y = .ref a ∧ DGet H a x o ∧ Q (.bl o.isSome) H := fun {kvs kk} hd hk p => by
      obtain ⟨a, ys, rfl, e, qq⟩ := hd.ok s r2
      obtain ⟨v1, v2⟩ := qq.val kk
      refine ⟨a, valV ys kk, rfl, .inl ⟨ys, kk, e, kV_keyV hk r1, rfl⟩, ?_⟩
      cases hg : dget kvs kk with
      | none => rw [v2 hg]; rw [hg] at p; exact post_here (v := .bl _) s rfl p
      | some z => obtain ⟨w, e1, _⟩ := v1 z hg; rw [e1]; rw [hg] at p; exact post_here (v := .bl _) s rfl p
    unfold wCmp at q
    split at q <;> first | exact q.elim | skip
    all_goals simp only [reduceCtorEq] at *
    · cases r1; cases r2
      exact .inl (.inl (.inl ⟨_, _, by rw [← str1 q.1], rfl, post_here (v := .bl _) s rfl q.2⟩))
    · obtain ⟨q1, q2, q3⟩ := q
      obtain ⟨a, ys, rfl, t, qq⟩ := r2
      refine .inl (.inr ⟨a, ys, rfl, .inr (SqT.mono s.sub t), flat_ok q1 r1, flats_ok q2 qq, ?_⟩)
      rw [inW_ok q1 r1 q2 qq]
      exact post_here (v := .bl _) s rfl q3
    · obtain ⟨kk, h1, q⟩ := q
      exact .inr (dic (.inl (.inl rfl)) h1 q)
    · obtain ⟨o, h0, q⟩ := q
      unfold inO at q
      split at q
      · obtain ⟨d, ds, h1, h2, h3, h4, q⟩ := q
        rw [if_neg (by decide)] at q
        exact .inl (.inl (.inr ⟨d, ds, DV.dp s h1 r1, DV.dp s h2 r2, h3, h4, post_here (v := .bl _) s rfl q⟩))
      · obtain ⟨kk, h1, q⟩ := q
        rw [if_neg (by decide)] at q
        exact .inr (dic (.inl (.inr ⟨_, rfl, h0⟩)) h1 q)
      · obtain ⟨kk, h1, q⟩ := q
        rw [if_neg (by decide)] at q
        exact .inr (dic (.inr ⟨_, rfl, h0⟩) h1 q)
      · exact q.elim
    · obtain ⟨d, ds, h1, h2, h3, h4, q⟩ := q
      exact .inl (.inl (.inr ⟨d, ds, DV.dp s h1 r1, DV.dp s h2 r2, h3, h4, post_here (v := .bl _) s rfl q⟩))
  · refine ⟨_, ((op_notIn_sign.or (op_notInD hu1)).or op_notIn_seq).or (op_dnotin (by omega)), fun F β S H v u x y Q s r1 r2 q => ?_⟩
    have dic : ∀ {kvs : List (Key × Va)} {kk : Key}, LR S u kvs → keyV v = some kk → post X.K cA F β Q (.bl (!(dget kvs kk).isSome)) S → ∃ a o, y = .ref a ∧ DGet H a x o ∧ Q (.bl (!o.isSome)) H := fun {kvs kk} hd hk p => by
      obtain ⟨a, ys, rfl, e, qq⟩ := hd.ok s r2
      obtain ⟨v1, v2⟩ := qq.val kk
      refine ⟨a, valV ys kk, rfl, .inl ⟨ys, kk, e, kV_keyV hk r1, rfl⟩, ?_⟩
      cases hg : dget kvs kk with
      | none => rw [v2 hg]; rw [hg] at p; exact post_here (v := .bl _) s rfl p
      | some z => obtain ⟨w, e1, _⟩ := v1 z hg; rw [e1]; rw [hg] at p; exact post_here (v := .bl _) s rfl p
    unfold wCmp at q
    split at q <;> first | exact q.elim | skip
    all_goals simp only [reduceCtorEq] at *
    · cases r1; cases r2
      exact .inl (.inl (.inl ⟨_, _, by rw [← str1 q.1], rfl, post_here (v := .bl _) s rfl q.2⟩))
    · obtain ⟨kk, h1, q⟩ := q
      exact .inr (dic (.inl (.inl rfl)) h1 q)
    · obtain ⟨o, h0, q⟩ := q
      unfold inO at q
      split at q
      · obtain ⟨d, ds, h1, h2, h3, h4, q⟩ := q
        rw [if_pos rfl] at q
        exact .inl (.inl (.inr ⟨d, ds, DV.dp s h1 r1, DV.dp s h2 r2, h3, h4, post_here (v := .bl _) s rfl q⟩))
      · obtain ⟨kk, h1, q⟩ := q
        rw [if_pos rfl] at q
        exact .inr (dic (.inl (.inr ⟨_, rfl, h0⟩)) h1 q)
      · obtain ⟨kk, h1, q⟩ := q
        rw [if_pos rfl] at q
        exact .inr (dic (.inr ⟨_, rfl, h0⟩) h1 q)
      · exact q.elim
    · obtain ⟨q1, q2, q3⟩ := q
      obtain ⟨a, ys, rfl, t, qq⟩ := r2
      refine .inl (.inr ⟨a, ys, rfl, .inr (SqT.mono s.sub t), flat_ok q1 r1, flats_ok q2 qq, ?_⟩)
      rw [inW_ok q1 r1 q2 qq]
      exact post_here (v := .bl _) s rfl q3
    · obtain ⟨d, ds, h1, h2, h3, h4, q⟩ := q
      exact .inl (.inl (.inr ⟨d, ds, DV.dp s h1 r1, DV.dp s h2 r2, h3, h4, post_here (v := .bl _) s rfl q⟩))
  · refine ⟨_, op_is_bl, fun F β S H v u x y Q s r1 r2 q => ?_⟩
    unfold wCmp at q
    split at q <;> first | exact q.elim | skip
    all_goals simp only [reduceCtorEq] at *
    cases r1; cases r2; exact ⟨_, _, rfl, rfl, post_here (v := .bl _) s rfl q⟩
  · refine ⟨_, op_isnot_bl, fun F β S H v u x y Q s r1 r2 q => ?_⟩
    unfold wCmp at q
    split at q <;> first | exact q.elim | skip
    all_goals simp only [reduceCtorEq] at *
    cases r1; cases r2; exact ⟨_, _, rfl, rfl, post_here (v := .bl _) s rfl q⟩
  · cases h
/-- a comparison gives a truth -/
theorem wCmp_bl {op : Cop} {v u : Va} {S : Sto} {P : PV} (h : wCmp op v u S P) : wCmp op v u S fun z S' => (∃ b, z = .bl b) ∧ P z S' := by
  unfold wCmp at h ⊢
  split at h <;> first | exact h.elim | exact ⟨⟨_, rfl⟩, h⟩ | exact ⟨h.1, ⟨_, rfl⟩, h.2⟩ | exact ⟨h.1, h.2.1, ⟨_, rfl⟩, h.2.2⟩ | (obtain ⟨d, ds, h1, h2, h3, h4, q⟩ := h; exact ⟨d, ds, h1, h2, h3, h4, ⟨_, rfl⟩, q⟩) | (obtain ⟨kk, h1, q⟩ := h; exact ⟨kk, h1, ⟨_, rfl⟩, q⟩) | (rcases h with (⟨h1, h2⟩ | ⟨h1, h2⟩) | ⟨d, e, h1, h2, h3, h4, h5⟩; exact .inl (.inl ⟨h1, ⟨_, rfl⟩, h2⟩); exact .inl (.inr ⟨h1, ⟨_, rfl⟩, h2⟩); exact .inr ⟨d, e, h1, h2, h3, h4, ⟨_, rfl⟩, h5⟩) | skip
  all_goals
    obtain ⟨o, h0, q⟩ := h
    refine ⟨o, h0, ?_⟩
    unfold inO at q ⊢
    split at q <;> first | exact q.elim | (obtain ⟨d, ds, h1, h2, h3, h4, q⟩ := q; exact ⟨d, ds, h1, h2, h3, h4, ⟨_, rfl⟩, q⟩) | (obtain ⟨kk, h1, q⟩ := q; exact ⟨kk, h1, ⟨_, rfl⟩, q⟩)
end
end AM
end

section
set_option linter.all false
set_option maxRecDepth 100000
set_option maxHeartbeats 2100000
/-! AM, between: list(reversed(a list)). -/
namespace AM
open PySem PySem.Spec PyProof.Rows L2 RT
section
variable {s : Shared} {prog : Program} {w : World} {A : Around} {E : Value → Shared → Prop}
/-- what a list takes from a walk backwards -/
theorem ext_rev {R : Result → Shared → Prop} {it l : Addr} {vs0 : Array Value} (hq0 : A.handled = none) (hr : s.heap.IsRevIter it l ((vs0.size : Int) - 1)) (hb0 : s.heap.IsList l vs0) (hd0 : l ≠ it) (hz0 : vs0.size ≤ sizeLine) (Z : Addr) (res : Value) (c₀ : Nat)
    (hZi : Z ≠ it) (hZl : Z ≠ l) (hZ : s.heap.get? Z = some { cls := .type "list", data := .seq #[] c₀ })
    (hR : ∀ h' tk acc' c', (∀ b o, b ≠ Z → b ≠ it → s.heap.get? b = some o → h'.get? b = some o) → h'.get? Z = some { cls := .type "list", dict := none, data := .seq acc' c', slots := #[] } →
      ItemsOf (fun i v => vs0[vs0.size - 1 - i]? = some v) acc' vs0.size → R (.ok (.ret res)) { s with heap := h', toks := tk }) :
    wpAny (model prog w) A.in1 (Builtin.List.listExtendWith (.ref Z) (.ref it) res)
      (fun fin s' => match fin with | .done f => R (.ok f) s' | .again c' => c'.quiet = true ∧ codeAny (model prog w) A c' R s') (fun e s' => R (.error e) s') s := by
  have Wk := (Walks.listRev (prog := prog) (w := w) (A := A.in1) hq0 it l hd0 vs0).toS
  have hZf : Z ∉ [it, l] := by simp only [List.mem_cons, List.not_mem_nil, or_false, not_or]; exact ⟨hZi, hZl⟩
  have hty : s.TypeIs (.ref it) "list_reverseiterator" := hr.typeIs
  have h1 : Builtin.List.listSameRef (.ref Z) (.ref it) = false := by simp [Builtin.List.listSameRef, hZi]
  unfold Builtin.List.listExtendWith
  refine wpAny_bind (wpAny_typeOf hty ?_)
  rw [if_neg (by rw [h1]; decide)]
  refine wpAny_bind (wpAny_pyIter_revIter hr ?_)
  refine wpAny_bind (wpAny_holding ?_)
  unfold Builtin.List.listLengthHint
  refine wpAny_bind (wpAny_specialOf hty nolen_lri ?_)
  show wpAny _ A.in1 (specialOf (Value.ref it) (Str.ofString "__length_hint__") >>= _) _ _ _
  refine wpAny_bind (wpAny_specialOf hty hint_lri ?_)
  generalize hie : ("list_reverseiterator.__length_hint__" : String) = idh
  wp_delta
  rw [show splitId idh = some ("list_reverseiterator", "__length_hint__") from by subst hie; decide +kernel]
  subst hie
  refine wpAny_bind (wpAny_isInstance (b := true) hty (by rw [isSubtype_type]; kernel_rfl) ?_)
  refine wpAny_pure ?_
  rw [if_neg (by decide)]
  have en : ((vs0.size : Nat) : Int) - 1 - ((0 : Nat) : Int) = (vs0.size : Int) - 1 := by omega
  refine wpAny_pure ⟨plainId_quiet F.plain_extend_loop _, codeAny_extend_loopS Wk hz0 _ hZf _ vs0.size 0 _ _ _ rfl (Nat.zero_le _) ⟨Nat.zero_le _, by rw [en]; exact hr, hb0⟩ hZ (ItemsOf.nil _) fun s' acc' c' hm hs2' hacc => ?_⟩
  rw [Moved.eq_with hm]
  refine hR s'.heap s'.toks acc' c' (fun b o hb hb2 e => hm.heap b o (fun hmm => ?_) e) hs2' hacc
  rcases List.mem_cons.mp hmm with e' | hmm
  · exact hb e'
  · exact hb2 (List.mem_singleton.mp hmm)
theorem init_rev {R : Result → Shared → Prop} {it l : Addr} {vs0 : Array Value} (hq0 : A.handled = none) (hr : s.heap.IsRevIter it l ((vs0.size : Int) - 1)) (hb0 : s.heap.IsList l vs0) (hd0 : l ≠ it) (hz0 : vs0.size ≤ sizeLine) (Z : Addr)
    (hZi : Z ≠ it) (hZl : Z ≠ l) (hZ : s.heap.get? Z = some { cls := .type "list", data := .seq #[] })
    (hR : ∀ h' tk acc' c', (∀ b o, b ≠ Z → b ≠ it → s.heap.get? b = some o → h'.get? b = some o) → h'.get? Z = some { cls := .type "list", dict := none, data := .seq acc' c', slots := #[] } →
      ItemsOf (fun i v => vs0[vs0.size - 1 - i]? = some v) acc' vs0.size → R (.ok (.ret .none)) { s with heap := h', toks := tk }) :
    wpAny (model prog w) A.in1 (Builtin.«list.__init__» ⟨[.ref Z, .ref it], []⟩)
      (fun fin s' => match fin with | .done f => R (.ok f) s' | .again c' => c'.quiet = true ∧ codeAny (model prog w) A c' R s') (fun e s' => R (.error e) s') s := by
  show wpAny _ _ (do let old ← Builtin.List.listItems (.ref Z); Builtin.List.listUpdate (.ref Z) (fun _ => #[]); letGo old.toList.reverse; Builtin.List.listExtendWith (.ref Z) (.ref it) .none) _ _ s
  refine wpAny_bind ?_
  unfold Builtin.List.listItems
  refine wpAny_bind (wpAny_seqItems hZ rfl (wpAny_pure ?_))
  show wpAny _ _ (updateSeq Z (fun _ => #[]) >>= fun _ => letGo (#[] : Array Value).toList.reverse >>= fun _ => Builtin.List.listExtendWith (.ref Z) (.ref it) .none) _ _ s
  refine wpAny_bind (wpAny_updateSeq hZ rfl ?_)
  have hZ2 := Heap.get?_update_self (Obj.mapSeq (fun _ => (#[] : Array Value))) hZ rfl
  have els : ∀ b o, b ≠ Z → s.heap.get? b = some o → (s.heap.update Z (Obj.mapSeq (fun _ => (#[] : Array Value)))).get? b = some o :=
    fun b o hb e => (Heap.get?_update_other _ _ (Ne.symm hb)).trans e
  refine wpAny_bind (wpAny_letGo ?_)
  refine ext_rev (s := { s with heap := s.heap.update Z (Obj.mapSeq (fun _ => (#[] : Array Value))) }) hq0 (hr.at fun o e => els _ _ hZi.symm e) (hb0.at fun o e => els _ _ hZl.symm e) hd0 hz0 Z .none _ hZi hZl hZ2 fun h' tk acc' c' hk hs2' hacc => ?_
  exact hR h' tk acc' c' (fun b o hb hb2 e => hk b o hb hb2 (els b o hb e)) hs2' hacc
theorem call_list_rev {Q : Value → Shared → Prop} {it l : Addr} {vs0 : Array Value} (hq0 : A.handled = none) (hr : s.heap.IsRevIter it l ((vs0.size : Int) - 1)) (hb0 : s.heap.IsList l vs0) (hd0 : l ≠ it) (hz0 : vs0.size ≤ sizeLine)
    (hQ : ∀ h' tk acc' c', (∀ b o, b ≠ it → s.heap.get? b = some o → h'.get? b = some o) →
      h'.get? s.heap.objs.size = some { cls := .type "list", dict := none, data := .seq acc' c', slots := #[] } → ItemsOf (fun i v => vs0[vs0.size - 1 - i]? = some v) acc' vs0.size → Q (.ref s.heap.objs.size) { s with heap := h', toks := tk }) :
    wpAny (model prog w) A (PySem.call (.type "list") [.ref it]) Q E s := by
  obtain ⟨oi, hoi, _⟩ := id hr
  obtain ⟨ol, hol, _⟩ := id hb0
  have hZi : s.heap.objs.size ≠ it := Nat.ne_of_gt (Heap.lt_size hoi)
  have hZl : s.heap.objs.size ≠ l := Nat.ne_of_gt (Heap.lt_size hol)
  refine callType_codes (Q₁ := fun obj s₁ => obj = .ref s.heap.objs.size ∧ s₁ = { s with heap := s.heap.push { cls := .type "list", data := .seq #[] } }) F.called_list (F.typeCall_list_1 _) F.entry_list_init
    (code_list_new _ ⟨rfl, rfl⟩) fun obj s₁ h₁ => ?_
  obtain ⟨rfl, rfl⟩ := h₁
  have hZ : (s.heap.push { cls := .type "list", data := .seq #[] }).get? s.heap.objs.size = some { cls := .type "list", data := .seq #[] } := Heap.get?_push_size _ rfl
  refine ⟨⟨_, hZ, rfl⟩, F.args_list_init_2 _ _, init_rev (A := A.in1) (s := { s with heap := s.heap.push { cls := .type "list", data := .seq #[] } }) hq0 (hr.at fun o e => Heap.get?_push_of_some _ e) (hb0.push _) hd0 hz0 _ hZi hZl hZ fun h' tk acc' c' hk hs2' hacc => ?_⟩
  exact ⟨rfl, hQ h' tk acc' c' (fun b o hb e => hk b o (Nat.ne_of_lt (Heap.lt_size e)) hb (Heap.get?_push_of_some _ e)) hs2' hacc⟩
end
section
variable {s : Shared} {prog : Program} {w : World} {A : Around} {E : Value → Shared → Prop}
/-! ### list(reversed(a tuple)) -/
theorem tupAt {h h' : Heap} {a : Addr} {items : Array Value} (x : IsTup h a items) (e : ∀ o, h.get? a = some o → h'.get? a = some o) : IsTup h' a items := let ⟨o, ho, r⟩ := x; ⟨o, e _ ho, r⟩
theorem nolen_rt : typeLookup (.type "reversed") "__len__" = pure none := by rw [typeLookup_type, builtinLookup_eq_fast]; kernel_rfl
theorem slot_rt_hint : Slot "reversed" "__length_hint__" "reversed.__length_hint__" :=
  .of (owner := "reversed") (n := "__length_hint__") (by rw [typeLookup_type, builtinLookup_eq_fast]; kernel_rfl) (by decide +kernel) (by decide +kernel) (by decide +kernel)
    (by first | exact .inl (by decide +kernel) | exact .inr (by decide +kernel)) (by rw [isSubtype_type]; kernel_rfl)
theorem entry_rt_hint : entryFor table "reversed.__length_hint__" = some Builtin.«reversed.__length_hint__» := entryFor_of_tree (by kernel_rfl)
theorem args_rt_hint (a : Value) : argsOk "reversed.__length_hint__" ⟨[a], []⟩ := by
  unfold argsOk; rw [signature?_of (id := "reversed.__length_hint__") (n := ['_', '_', 't', 'n', 'i', 'h', '_', 'h', 't', 'g', 'n', 'e', 'l', '_', '_']) (o := ['d', 'e', 's', 'r', 'e', 'v', 'e', 'r']) (by kernel_rfl) owner_rt]; kernel_rfl
theorem Walks.tupRev {prog : Program} {w : World} {A : Around} (hh : A.handled = none) (I l : Addr) (hne : l ≠ I) (items : Array Value) (hsz : items.size ≤ sizeLine) :
    Walks prog w A I [I, l] [I] items.size (fun i v => items[items.size - 1 - i]? = some v) (fun i h => i ≤ items.size ∧ IsRt h I l ((items.size : Int) - 1 - (i : Int)) ∧ IsTup h l items) where
  sub := fun b hb => by simp at hb; simp [hb]
  frame := fun _ _ _ x hk => ⟨x.1, x.2.1.at fun o e => hk I (by simp) o e, tupAt x.2.2 fun o e => hk l (by simp) o e⟩
  item := fun i s Q E hi x hQ => by
    have e : (items.size : Int) - 1 - (i : Int) = ((items.size - 1 - i : Nat) : Int) := by omega
    have hit := x.2.1
    rw [e] at hit
    have hx : items[items.size - 1 - i]? = some (items[items.size - 1 - i]'(by omega)) := Array.getElem?_eq_getElem (by omega)
    refine next_rt_item hit x.2.2 hx hsz fun h' hit' hs' => ?_
    have e2 : ((items.size - 1 - i : Nat) : Int) - 1 = (items.size : Int) - 1 - ((i + 1 : Nat) : Int) := by omega
    rw [e2] at hit'
    exact hQ _ h' (s.toks + 1) hx ⟨hi, hit', tupAt x.2.2 fun o eo => (hs'.2 l hne).trans eo⟩ fun b o hb eo => hs'.extBut b o (fun h => hb (by simp [h])) eo
  done := fun s Q E x hQ => by
    have e : (items.size : Int) - 1 - (items.size : Int) = -1 := by omega
    have hit := x.2.1
    rw [e] at hit
    exact next_rt_end hh hit fun h' he' => hQ h' s.toks fun b o hb eo => he' b o (fun h => hb (by simp [h])) eo
  self := fun _ _ _ _ x hQ => iter_rt x.2.1 hQ
theorem ext_revT {R : Result → Shared → Prop} {it l : Addr} {vs0 : Array Value} (hq0 : A.handled = none) (hr : IsRt s.heap it l ((vs0.size : Int) - 1)) (hb0 : IsTup s.heap l vs0) (hd0 : l ≠ it) (hz0 : vs0.size ≤ sizeLine) (Z : Addr) (res : Value) (c₀ : Nat)
    (hZi : Z ≠ it) (hZl : Z ≠ l) (hZ : s.heap.get? Z = some { cls := .type "list", data := .seq #[] c₀ })
    (hR : ∀ h' tk acc' c', (∀ b o, b ≠ Z → b ≠ it → s.heap.get? b = some o → h'.get? b = some o) → h'.get? Z = some { cls := .type "list", dict := none, data := .seq acc' c', slots := #[] } →
      ItemsOf (fun i v => vs0[vs0.size - 1 - i]? = some v) acc' vs0.size → R (.ok (.ret res)) { s with heap := h', toks := tk }) :
    wpAny (model prog w) A.in1 (Builtin.List.listExtendWith (.ref Z) (.ref it) res)
      (fun fin s' => match fin with | .done f => R (.ok f) s' | .again c' => c'.quiet = true ∧ codeAny (model prog w) A c' R s') (fun e s' => R (.error e) s') s := by
  have Wk := (Walks.tupRev (prog := prog) (w := w) (A := A.in1) hq0 it l hd0 vs0 hz0).toS
  have hZf : Z ∉ [it, l] := by simp only [List.mem_cons, List.not_mem_nil, or_false, not_or]; exact ⟨hZi, hZl⟩
  have hty : s.TypeIs (.ref it) "reversed" := hr.typeIs
  have h1 : Builtin.List.listSameRef (.ref Z) (.ref it) = false := by simp [Builtin.List.listSameRef, hZi]
  unfold Builtin.List.listExtendWith
  refine wpAny_bind (wpAny_typeOf hty ?_)
  rw [if_neg (by rw [h1]; decide)]
  refine wpAny_bind (iter_rt hr ?_)
  refine wpAny_bind (wpAny_holding ?_)
  unfold Builtin.List.listLengthHint
  refine wpAny_bind (wpAny_specialOf hty nolen_rt ?_)
  show wpAny _ A.in1 (specialOf (Value.ref it) (Str.ofString "__length_hint__") >>= _) _ _ _
  refine wpAny_bind (wpAny_specialOf hty slot_rt_hint.lookup ?_)
  generalize hie : ("reversed.__length_hint__" : String) = idh
  wp_delta
  rw [show splitId idh = some ("reversed", "__length_hint__") from by subst hie; decide +kernel]
  subst hie
  refine wpAny_bind (wpAny_isInstance (b := true) hty (by rw [isSubtype_type]; kernel_rfl) ?_)
  rw [if_neg (by decide)]
  rw [if_neg (by decide +kernel)]
  refine wpAny_bind (wpAny_rule ?_)
  simp only [slot_rt_hint.bind]
  refine wpAny_bind (wpAny_pure ?_)
  try dsimp only
  obtain ⟨o, ho, hc, hd⟩ := id hr
  refine wpAny_bind (wpAny_attempt (wpAny_call_entry slot_rt_hint hty entry_rt_hint ?_ (args_rt_hint _)))
  unfold Builtin.«reversed.__length_hint__»
  refine wpAny_bind (wpAny_of_eq (a := Value.ref it) rfl ?_)
  try dsimp only
  refine wpAny_bind (wpAny_field ho hd (x := .ref l) rfl ?_)
  try dsimp only
  rw [if_neg (by simp)]
  refine wpAny_bind (len_tuple hb0 (by have : sizeLine = 16777216 := by decide
                                       omega) ?_)
  refine wpAny_bind (wpAny_of_eq (a := some ((vs0.size : Nat) : Int)) rfl ?_)
  try dsimp only
  refine wpAny_bind (wpAny_field (s := { s with toks := s.toks + 1 + 1 }) ho hd (x := rawInt ((vs0.size : Int) - 1)) rfl ?_)
  show wpAny _ _ (if ((vs0.size : Nat) : Int) < (vs0.size : Int) - 1 + 1 then _ else _) _ _ _
  rw [if_neg (by omega)]
  have e1 : (vs0.size : Int) - 1 + 1 = ((vs0.size : Nat) : Int) := by omega
  rw [e1]
  unfold retInt
  refine wpAny_bind (wpAny_mkInt (wpAny_pure ⟨_, rfl, ?_⟩))
  have hsz : sizeLine = 16777216 := by decide
  dsimp only
  refine wpAny_bind ?_
  rw [show asInt? (Value.int ((vs0.size : Nat) : Int) (s.toks + 1 + 1)) = pure (some ((vs0.size : Nat) : Int)) from rfl]
  refine wpAny_pure ?_
  try dsimp only
  have hlong : Builtin.List.listTooLong ((vs0.size : Nat) : Int).toNat = false := by
    unfold Builtin.List.listTooLong
    rw [Int.toNat_natCast]
    simp
    omega
  have hfit : Builtin.List.listFitsIndex ((vs0.size : Nat) : Int) = true := by
    unfold Builtin.List.listFitsIndex
    rw [Bool.and_eq_true, decide_eq_true_iff, decide_eq_true_iff]
    omega
  rw [if_neg (by rw [hfit]; decide)]
  rw [if_neg (by omega)]
  rw [if_neg (by rw [hlong]; decide)]
  refine wpAny_pure ?_
  have en : ((vs0.size : Nat) : Int) - 1 - ((0 : Nat) : Int) = (vs0.size : Int) - 1 := by omega
  by_cases hz : vs0.size = 0
  · rw [if_neg (by rw [hz]; decide)]
    refine wpAny_pure ⟨plainId_quiet F.plain_extend_loop _, codeAny_extend_loopS Wk hz0 _ hZf _ vs0.size 0 _ _ _ rfl (Nat.zero_le _) ⟨Nat.zero_le _, by rw [en]; exact hr, hb0⟩ hZ (ItemsOf.nil _) fun s' acc' c' hm hs2' hacc => ?_⟩
    rw [Moved.eq_with hm]
    refine hR s'.heap s'.toks acc' c' (fun b o hb hb2 e => hm.heap b o (fun hmm => ?_) e) hs2' hacc
    rcases List.mem_cons.mp hmm with e' | hmm
    · exact hb e'
    · exact hb2 (List.mem_singleton.mp hmm)
  · rw [if_pos (by rw [Bool.or_eq_true]; exact .inl (by rw [bne_iff_ne]; omega))]
    refine wpAny_bind (wpAny_rule ?_)
    refine wpAny_bind ?_
    clear hsz hlong hfit e1
    show wpAny _ A.in1 (updateSeq Z (·.push .none) >>= fun _ => updateSeq Z (·.pop)) _ _ _
    refine wpAny_bind (wpAny_updateSeq hZ rfl ?_)
    have hS₂ := Heap.get?_update_self (Obj.mapSeq (·.push Value.none)) hZ rfl
    refine wpAny_updateSeq (hz := by seq_fits) hS₂ rfl ?_
    have hS₃ := Heap.get?_update_self (Obj.mapSeq (·.pop)) hS₂ rfl
    have oth : ∀ b o, b ≠ Z → s.heap.get? b = some o → ((s.heap.update Z (Obj.mapSeq (·.push Value.none))).update Z (Obj.mapSeq (·.pop))).get? b = some o :=
      fun b o hb e => (Heap.get?_update_other _ _ (Ne.symm hb)).trans ((Heap.get?_update_other _ _ (Ne.symm hb)).trans e)
    refine wpAny_pure ⟨plainId_quiet F.plain_extend_loop _, codeAny_extend_loopS Wk hz0 _ hZf _ vs0.size 0 _ _ _ rfl (Nat.zero_le _)
      ⟨Nat.zero_le _, by rw [en]; exact hr.at fun o e => oth _ o hZi.symm e, tupAt hb0 fun o e => oth _ o hZl.symm e⟩ hS₃ (ItemsOf.nil _) fun s' acc' c' hm hs2' hacc => ?_⟩
    rw [Moved.eq_with hm]
    refine hR s'.heap s'.toks acc' c' (fun b o hb hb2 e => hm.heap b o (fun hmm => ?_) (oth b o hb e)) hs2' hacc
    rcases List.mem_cons.mp hmm with e' | hmm
    · exact hb e'
    · exact hb2 (List.mem_singleton.mp hmm)
theorem init_revT {R : Result → Shared → Prop} {it l : Addr} {vs0 : Array Value} (hq0 : A.handled = none) (hr : IsRt s.heap it l ((vs0.size : Int) - 1)) (hb0 : IsTup s.heap l vs0) (hd0 : l ≠ it) (hz0 : vs0.size ≤ sizeLine) (Z : Addr)
    (hZi : Z ≠ it) (hZl : Z ≠ l) (hZ : s.heap.get? Z = some { cls := .type "list", data := .seq #[] })
    (hR : ∀ h' tk acc' c', (∀ b o, b ≠ Z → b ≠ it → s.heap.get? b = some o → h'.get? b = some o) → h'.get? Z = some { cls := .type "list", dict := none, data := .seq acc' c', slots := #[] } →
      ItemsOf (fun i v => vs0[vs0.size - 1 - i]? = some v) acc' vs0.size → R (.ok (.ret .none)) { s with heap := h', toks := tk }) :
    wpAny (model prog w) A.in1 (Builtin.«list.__init__» ⟨[.ref Z, .ref it], []⟩)
      (fun fin s' => match fin with | .done f => R (.ok f) s' | .again c' => c'.quiet = true ∧ codeAny (model prog w) A c' R s') (fun e s' => R (.error e) s') s := by
  show wpAny _ _ (do let old ← Builtin.List.listItems (.ref Z); Builtin.List.listUpdate (.ref Z) (fun _ => #[]); letGo old.toList.reverse; Builtin.List.listExtendWith (.ref Z) (.ref it) .none) _ _ s
  refine wpAny_bind ?_
  unfold Builtin.List.listItems
  refine wpAny_bind (wpAny_seqItems hZ rfl (wpAny_pure ?_))
  show wpAny _ _ (updateSeq Z (fun _ => #[]) >>= fun _ => letGo (#[] : Array Value).toList.reverse >>= fun _ => Builtin.List.listExtendWith (.ref Z) (.ref it) .none) _ _ s
  refine wpAny_bind (wpAny_updateSeq hZ rfl ?_)
  have hZ2 := Heap.get?_update_self (Obj.mapSeq (fun _ => (#[] : Array Value))) hZ rfl
  have els : ∀ b o, b ≠ Z → s.heap.get? b = some o → (s.heap.update Z (Obj.mapSeq (fun _ => (#[] : Array Value)))).get? b = some o :=
    fun b o hb e => (Heap.get?_update_other _ _ (Ne.symm hb)).trans e
  refine wpAny_bind (wpAny_letGo ?_)
  refine ext_revT (s := { s with heap := s.heap.update Z (Obj.mapSeq (fun _ => (#[] : Array Value))) }) hq0 (hr.at fun o e => els _ _ hZi.symm e) (tupAt hb0 fun o e => els _ _ hZl.symm e) hd0 hz0 Z .none _ hZi hZl hZ2 fun h' tk acc' c' hk hs2' hacc => ?_
  exact hR h' tk acc' c' (fun b o hb hb2 e => hk b o hb hb2 (els b o hb e)) hs2' hacc
theorem call_list_revT {Q : Value → Shared → Prop} {it l : Addr} {vs0 : Array Value} (hq0 : A.handled = none) (hr : IsRt s.heap it l ((vs0.size : Int) - 1)) (hb0 : IsTup s.heap l vs0) (hd0 : l ≠ it) (hz0 : vs0.size ≤ sizeLine)
    (hQ : ∀ h' tk acc' c', (∀ b o, b ≠ it → s.heap.get? b = some o → h'.get? b = some o) →
      h'.get? s.heap.objs.size = some { cls := .type "list", dict := none, data := .seq acc' c', slots := #[] } → ItemsOf (fun i v => vs0[vs0.size - 1 - i]? = some v) acc' vs0.size → Q (.ref s.heap.objs.size) { s with heap := h', toks := tk }) :
    wpAny (model prog w) A (PySem.call (.type "list") [.ref it]) Q E s := by
  obtain ⟨oi, hoi, _⟩ := id hr
  obtain ⟨ol, hol, _⟩ := id hb0
  have hZi : s.heap.objs.size ≠ it := Nat.ne_of_gt (Heap.lt_size hoi)
  have hZl : s.heap.objs.size ≠ l := Nat.ne_of_gt (Heap.lt_size hol)
  refine callType_codes (Q₁ := fun obj s₁ => obj = .ref s.heap.objs.size ∧ s₁ = { s with heap := s.heap.push { cls := .type "list", data := .seq #[] } }) F.called_list (F.typeCall_list_1 _) F.entry_list_init
    (code_list_new _ ⟨rfl, rfl⟩) fun obj s₁ h₁ => ?_
  obtain ⟨rfl, rfl⟩ := h₁
  have hZ : (s.heap.push { cls := .type "list", data := .seq #[] }).get? s.heap.objs.size = some { cls := .type "list", data := .seq #[] } := Heap.get?_push_size _ rfl
  refine ⟨⟨_, hZ, rfl⟩, F.args_list_init_2 _ _, init_revT (A := A.in1) (s := { s with heap := s.heap.push { cls := .type "list", data := .seq #[] } }) hq0 (hr.at fun o e => Heap.get?_push_of_some _ e) (tupAt hb0 fun o e => Heap.get?_push_of_some _ e) hd0 hz0 _ hZi hZl hZ fun h' tk acc' c' hk hs2' hacc => ?_⟩
  exact ⟨rfl, hQ h' tk acc' c' (fun b o hb e => hk b o (Nat.ne_of_lt (Heap.lt_size e)) hb (Heap.get?_push_of_some _ e)) hs2' hacc⟩
end
/-- list(reversed(x)), x a list or a tuple: a new list -/
def tLstRev (K : PySem.W.Frag) (te : TE) : TE := fun σ H Q => te σ H fun v H1 => ∃ (a : Addr) (xs : List V), v = .ref a ∧ (SqL K H1 a xs ∨ SqT K H1 a xs) ∧ ∀ q, H1 q = none → Q (.ref q) (upd H1 q (.lst xs.reverse))
theorem vals_turned {xs : List V} {ws : List Value} {aa : Array Value} (r : Vals xs ws) (h : ItemsOf (fun i v => ws.toArray[ws.toArray.size - 1 - i]? = some v) aa ws.toArray.size) : Vals xs.reverse aa.toList := by
  have hs : ws.toArray.size = ws.length := List.size_toArray
  have hb0 : aa.toList.length = ws.length := by rw [Array.length_toList, h.1, hs]
  have e : aa.toList = ws.reverse := by
    refine List.ext_getElem? fun j => ?_
    by_cases hj : j < ws.length
    · have e1 : aa.toList[j]? = some (aa.toList[j]'(by omega)) := List.getElem?_eq_getElem (by omega)
      have e2 := h.2 j _ ((Array.getElem?_toList ..).symm.trans e1)
      rw [e1, List.getElem?_reverse hj, ← e2, hs]
      simp
    · rw [List.getElem?_eq_none (by omega), List.getElem?_eq_none (by rw [List.length_reverse]; omega)]
  rw [e]
  exact r.reverse
section
variable {X : Cx}
theorem pe_listRev {e : Expr} {te : TE} {p p2 pos pos2 : Pos} (hc : X.calm = true) (hg : Gl X "list") (hm : X.mg "list" = none) (hg2 : Gl X "reversed") (hm2 : X.mg "reversed" = none) (he : PE X e te)
    (hs : starEach [e] X.env = (false, eval e X.env) :: starEach [] X.env)
    (hs2 : starEach [.Call (.Name "reversed" p2) [e] [] pos2] X.env = (false, eval (.Call (.Name "reversed" p2) [e] [] pos2) X.env) :: starEach [] X.env := by rfl) :
    PE X (.Call (.Name "list" p) [.Call (.Name "reversed" p2) [e] [] pos2] [] pos) (tLstRev X.K te) := by
  refine ⟨fun pins s σ H Q I h => ?_⟩
  refine Call_ (ld_blt I hg hm boot_list (PyProof.Rows.callWith_type1 (args_cons (Call_ (ld_blt I hg2 hm2 PyProof.Rows.boot_reversed (PyProof.Rows.callWith_type1 (args_cons (thn (he.run pins s σ H _ I h) fun u t1 ⟨v, H1, J1, r1, q1⟩ => args_nil ?_) hs) hs rfl))) hs2) hs2 rfl))
  obtain ⟨a, xs, rfl, hq | hq, q⟩ := q1
  rotate_left
  · obtain rfl : u = Value.ref a := r1
    obtain ⟨ws, rr, hb0, hz⟩ := J1.tuple hq
    have hz0 : ws.toArray.size ≤ sizeLine := by rw [List.size_toArray, ← rr.length]; exact hz
    have hz9 : (ws.toArray.size : Int) < 2 ^ 63 := by
      have : sizeLine = 16777216 := by decide
      omega
    refine call_reversed_tup hb0 (fun A E Q k => len_tuple hb0 hz9 k) (args_nil ?_)
    have ka : ∀ b o, t1.heap.get? b = some o → (t1.heap.push (rtObj a ((ws.toArray.size : Int) - 1))).get? b = some o := fun b o e => Heap.get?_push_of_some _ e
    have hd0 : a ≠ t1.heap.objs.size := Nat.ne_of_lt hb0.lt
    refine call_list_revT (s := { t1 with heap := t1.heap.push (rtObj a ((ws.toArray.size : Int) - 1)), toks := t1.toks + 1 + 1 }) (J1.ok.hd hc) ⟨_, Heap.get?_push_size _ rfl, rfl, rfl⟩ (hb0.push _) hd0 hz0 fun h' tk aa c' hk e' hi => ?_
    have hsz : t1.heap.objs.size ≤ (t1.heap.push (rtObj a ((ws.toArray.size : Int) - 1))).objs.size := by simp [Heap.push]
    have hk2 : ∀ b o, t1.heap.get? b = some o → h'.get? b = some o := fun b o e => hk b o (Nat.ne_of_lt (Heap.lt_size e)) (ka b o e)
    exact ⟨.ref (t1.heap.push (rtObj a ((ws.toArray.size : Int) - 1))).objs.size, upd H1 (t1.heap.push (rtObj a ((ws.toArray.size : Int) - 1))).objs.size (.lst xs.reverse), J1.laid (t' := tk) hk2 hsz (show ObjOk X.prog X.w _ _ _ (.lst xs.reverse) from ⟨by rw [List.length_reverse]; exact hz, aa.toList, c', vals_turned rr hi, by rw [Array.toArray_toList]; exact e'⟩), rfl, q _ (J1.hok.fresh hsz)⟩
  obtain rfl : u = Value.ref a := r1
  obtain ⟨ws, rr, pl, hz⟩ := J1.list hq
  refine call_reversed_list pl.isList (args_nil ?_)
  have ka : ∀ b o, t1.heap.get? b = some o → (t1.heap.push (revObj a ((ws.toArray.size : Int) - 1))).get? b = some o := fun b o e => Heap.get?_push_of_some _ e
  obtain ⟨g0, f1, f2, f3, f4, f5⟩ := J1.fpOk (H' := H1) (b := t1.heap.objs.size) (Nat.le_refl _) (J1.hok.fresh (Nat.le_refl _))
  have hb0 := pl.isList
  obtain ⟨ol, hol, _⟩ := id hb0
  have hd0 : a ≠ t1.heap.objs.size := Nat.ne_of_lt (Heap.lt_size hol)
  have hz0 : ws.toArray.size ≤ sizeLine := by rw [List.size_toArray, ← rr.length]; exact hz
  refine call_list_rev (s := { t1 with heap := t1.heap.push (revObj a ((ws.toArray.size : Int) - 1)) }) (J1.ok.hd hc) ⟨_, Heap.get?_push_size _ rfl, rfl, rfl⟩ (hb0.push _) hd0 hz0 fun h' tk aa c' hk e' hi => ?_
  have J2 : Inv X pins σ H1 { t1 with heap := t1.heap.push (revObj a ((ws.toArray.size : Int) - 1)) } := J1.kept (t' := t1.toks) ka
  have hsz : t1.heap.objs.size ≤ (t1.heap.push (revObj a ((ws.toArray.size : Int) - 1))).objs.size := by simp [Heap.push]
  have hk2 : ∀ b o, t1.heap.get? b = some o → h'.get? b = some o := fun b o e => hk b o (Nat.ne_of_lt (Heap.lt_size e)) (ka b o e)
  refine ⟨.ref (t1.heap.push (revObj a ((ws.toArray.size : Int) - 1))).objs.size, upd H1 (t1.heap.push (revObj a ((ws.toArray.size : Int) - 1))).objs.size (.lst xs.reverse), J1.laid (t' := tk) hk2 hsz (show ObjOk X.prog X.w _ _ _ (.lst xs.reverse) from ⟨by rw [List.length_reverse]; exact hz, aa.toList, c', vals_turned rr hi, by rw [Array.toArray_toList]; exact e'⟩), rfl, q _ (J1.hok.fresh hsz)⟩
end
/-! ### enumerate(a tuple) -/
section
open Builtin Sem
set_option maxRecDepth 100000
theorem meets_enumerate_newT (l : Addr) (items : Array Value) :
    Meets (Builtin.«enumerate.__new__» ⟨[.type "enumerate", .ref l], []⟩) (fun _ R s => s.heap.IsTuple l items ∧
      R (.ok (.ret (.ref (s.heap.push { cls := .type "tuple_iterator", data := .fields #[.ref l, .int 0 0] }).objs.size)))
        { s with heap := (s.heap.push { cls := .type "tuple_iterator", data := .fields #[.ref l, .int 0 0] }).push { cls := .type "enumerate", data := .fields #[.none, .bool false, .ref s.heap.objs.size, rawInt 0, .none, .none] } }) :=
  .of_wp fun prog w A R s h => by
    obtain ⟨hp, g, d, tk, os⟩ := s; obtain ⟨hL, h⟩ := h
    have hsub := sub_enumerate
    have hL : Heap.IsTuple (Shared.heap ⟨hp, g, d, tk, os⟩) l items := hL
    wp_walk
    refine wpAny_stack_any fun st => wpAny_pure ?_
    split
    · rename_i c _ _ _ _ _
      cases (c == Value.type "enumerate")
      · wp_walk using wpAny_pyIter_tuple hL
        exact ⟨_, rfl, h⟩
      · wp_walk using wpAny_pyIter_tuple hL
        exact ⟨_, rfl, h⟩
    · wp_walk using wpAny_pyIter_tuple hL
      exact ⟨_, rfl, h⟩
end
section
variable {prog : Program} {w : World} {A : Around} {E : Value → Shared → Prop} {s : Shared}
theorem call_enumerate_tuple {l : Addr} {items : Array Value} {Q : Value → Shared → Prop} (hL : s.heap.IsTuple l items)
    (h : ∀ h', IsEnum h' (s.heap.objs.size + 1) s.heap.objs.size 0 .none → h'.IsTupleIter s.heap.objs.size l 0 → h'.objs.size = s.heap.objs.size + 2 →
      (∀ b o, s.heap.get? b = some o → h'.get? b = some o) → Q (.ref (s.heap.objs.size + 1)) { s with heap := h' }) :
    wpAny (model prog w) A (PySem.call (.type "enumerate") [.ref l]) Q E s := by
  refine callType_new F.called_enumerate (by decide) (F.typeCall_enumerate_1 _) (F.newCall_enumerate_1 _) (fun obj => F.args_object_init_2 obj _) F.entry_enumerate_new
    (meets_enumerate_newT l items) ⟨hL, ?_⟩
  have hz : (s.heap.push { cls := .type "tuple_iterator", data := .fields #[.ref l, .int 0 0] }).objs.size = s.heap.objs.size + 1 := Heap.size_push ..
  show _ ∧ _
  rw [hz]
  have he : IsEnum ((s.heap.push { cls := .type "tuple_iterator", data := .fields #[.ref l, .int 0 0] }).push
      { cls := .type "enumerate", data := .fields #[.none, .bool false, .ref s.heap.objs.size, rawInt 0, .none, .none] }) (s.heap.objs.size + 1) s.heap.objs.size 0 .none := by
    have := Heap.get?_push_size (s.heap.push { cls := .type "tuple_iterator", data := .fields #[.ref l, .int 0 0] })
      (o := { cls := .type "enumerate", data := .fields #[.none, .bool false, .ref s.heap.objs.size, rawInt 0, .none, .none] }) rfl
    rw [hz] at this; exact this
  refine ⟨⟨_, he, rfl⟩, h _ he ⟨_, Heap.get?_push_of_some _ (Heap.get?_push_size _ rfl), rfl, rfl⟩ (by rw [Heap.size_push, hz]) fun b o x => Heap.get?_push_of_some _ (Heap.get?_push_of_some _ x)⟩
end
section
variable {prog : Program} {w : World} {A : Around} {E : Value → Shared → Prop} {s : Shared}
theorem enum_endT {e it l : Addr} {i : Nat} {items : Array Value} {old : Value} {Q : Option Value → Shared → Prop} (hh : A.handled = none)
    (he : IsEnum s.heap e it i old) (hit : s.heap.IsTupleIter it l i) (hl : s.heap.IsTuple l items) (hx : items[i]? = none)
    (hQ : ∀ h', Heap.ExtBut it s.heap h' → Q none { s with heap := h' }) : wpAny (model prog w) A (pyNext (.ref e)) Q E s := by
  have hT : s.TypeIs (.ref e) "enumerate" := ⟨_, he, rfl⟩
  unfold pyNext
  refine wpAny_bind (wpAny_attempt (wpAny_callSpecial?_slot (name := Str.ofString "__next__") hT F.slot_enumerate_next
    (wpAny_call_entry F.slot_enumerate_next hT F.entry_enumerate_next ?_ (F.args_enumerate_next_1 _))))
  show wpAny _ _ (field (.ref e) 2 >>= _) _ _ _
  refine wpAny_bind (wpAny_field he rfl (x := .ref it) rfl ?_)
  refine wpAny_bind (wpAny_nextOf_tuple_end hh hit hl hx fun h' x he' hx' => ?_)
  obtain ⟨o, ho, hc⟩ := hx'
  refine wpAny_bind (wpAny_isInstance (T := "StopIteration") (b := true) ⟨o, ho, hc⟩ isSubtype_stop ?_)
  exact wpAny_pure (hQ _ he')
end
/-- the tuple at a, each item in a new pair -/
def Itet (K : PySem.W.Frag) (a : Addr) : L2.It :=
  ⟨fun i H => ∃ (xs : List V) (x : V), SqT K H a xs ∧ xs[i]? = some x, fun i H v H' => ∃ T x, v = .ref T ∧ H T = none ∧ H' = upd H T (.tup [.int (i : Nat), x]) ∧ ∀ xs, SqT K H a xs → xs[i]? = some x, fun i H => ∃ xs : List V, SqT K H a xs ∧ xs.length ≤ i⟩
theorem turn_enumT {P : Program} {w : World} {K : PySem.W.Frag} {elts : List Expr} {kk : Nat} {tpos : Pos} (a e it : Addr) :
    Turn P w K (.Tuple elts kk tpos) (Itet K a) [e, it] e (fun i h => (∃ old, IsEnum h e it ((i : Nat) : Int) old) ∧ h.IsTupleIter it a i ∧ e ≠ it ∧ a ≠ it ∧ e ≠ a) where
  mem := by simp
  obj := fun i h st b hb => by
    obtain ⟨⟨old, he⟩, ⟨o, ho, hc, hd⟩, _⟩ := st
    have e' : b = e ∨ b = it := by simpa using hb
    rcases e' with z | z
    · rw [z]; exact ⟨_, he, fun v q => nomatch q⟩
    · rw [z]; exact ⟨o, ho, fun v q => by rw [hd] at q; cases q⟩
  keep := fun i h h' st k => let ⟨⟨old, he⟩, hi, hne⟩ := st; ⟨⟨old, k e (by simp) _ he⟩, hi.at fun o q => k it (by simp) o q, hne⟩
  item := by
    intro X hP hw hK hc i pins s σ H E I hf st hg
    subst hP hw hK
    obtain ⟨⟨old, he⟩, hit, hne, hai, hea⟩ := st
    obtain ⟨xs, x, hq, hx⟩ := hg
    obtain ⟨its, rv, p, hz⟩ := I.tuple hq
    obtain ⟨u, hu, ru⟩ := rv.get hx
    have hel : e < s.heap.objs.size := Heap.lt_size he
    have hil : it < s.heap.objs.size := by obtain ⟨_, q, _⟩ := hit; exact Heap.lt_size q
    have hT0 : s.heap.IsTuple a its.toArray := p
    have hlt : i < its.toArray.size := by
      have := (List.getElem?_eq_some_iff.mp hu).1
      simpa using this
    refine wpAny_pyNext_enum_itemD (Draws.tuple (A := X.A.in1) (show X.A.in1.handled = none from I.ok.hd hc) it a hai its.toArray) he ⟨hit, hT0⟩ hlt hne (by simp [hne, hea]) fun x' h' tk hx' ho hit' hT hsz hk => ?_
    have eu : x' = u := by
      have e1 : its[i]? = some x' := by simpa using hx'
      rw [hu] at e1; exact (Option.some.inj e1).symm
    subst eu
    refine ⟨_, rfl, wpAny_letOwnedTupleGo_enum (s := { s with heap := h', toks := tk + 1 }) ho fun h'' he' sb => ?_⟩
    have hT2 : h''.get? s.heap.objs.size = some { cls := .type "tuple", data := .seq #[.int i tk, x'] } := (sb.2 _ (Nat.ne_of_gt hel)).trans hT
    have new : ObjOk X.prog X.w (upd H s.heap.objs.size (.tup [.int (i : Nat), x])) h'' s.heap.objs.size (.tup [.int (i : Nat), x]) :=
      ⟨by show 2 ≤ sizeLine; decide, [.int i tk, x'], .cons ⟨_, rfl⟩ (.cons ru .nil), ⟨_, hT2, rfl, _, rfl⟩⟩
    have I1 : Inv X pins σ (upd H s.heap.objs.size (.tup [.int (i : Nat), x])) { s with heap := h'', toks := tk + 1 } :=
      I.turnedNew (ch := [e, it]) (fun b ob hb q => (sb.2 b (fun z => hb (by simp [z]))).trans (hk b ob (fun z => hb (by simp [z])) (fun z => hb (by simp [z])) q)) hf (Nat.le_refl _) new
    refine ⟨.ref s.heap.objs.size, _, I1, rfl, ⟨_, x, rfl, I.hok.fresh (Nat.le_refl _), rfl, fun ys hy => by rw [I.tuple_inj hy hq]; exact hx⟩, ⟨⟨x', ?_⟩, hit'.1.at fun o q => (sb.2 it (Ne.symm hne)).trans q, hne, hai, hea⟩, fun b hb => ?_⟩
    · have e1 : ((i + 1 : Nat) : Int) = (i : Int) + 1 := by omega
      rw [e1]; exact he'
    · have hb' : b < s.heap.objs.size := by
        have e' : b = e ∨ b = it := by simpa using hb
        rcases e' with z | z
        · rw [z]; exact hel
        · rw [z]; exact hil
      rw [upd_ne (Nat.ne_of_lt hb')]
      exact (hf b hb).1
  done := by
    intro X hP hw hK hc i pins s σ H E I hf st hg
    subst hP hw hK
    obtain ⟨⟨old, he⟩, hit, hne, hai, hea⟩ := st
    obtain ⟨xs, hq, hx⟩ := hg
    obtain ⟨its, rv, p, hz⟩ := I.tuple hq
    have hT0 : s.heap.IsTuple a its.toArray := p
    obtain ⟨f0, f1, f2, f3, f4, f5⟩ := hf it (by simp)
    have hl := rv.length
    exact enum_endT (I.ok.hd hc) he hit hT0 (by simp; omega) fun h' eb => ⟨rfl, I.turned (t' := s.toks) (fun b o hb q => eb b o hb q) f0 f1 f3 f4 f5⟩
  self := fun A i s Q E st h => let ⟨⟨_, he⟩, _⟩ := st; wpAny_pyIter_enum he h
def iEnumA (K : PySem.W.Frag) (ta : TA) : TI := fun σ H R => ta σ H fun vs H1 => ∃ a xs, vs = [.ref a] ∧ ((SqL K H1 a xs ∧ R (Ite K a) H1) ∨ (SqT K H1 a xs ∧ R (Itet K a) H1))
theorem pi_enumA {X : Cx} {e : Expr} {ta : TA} {p pos tpos : Pos} {elts : List Expr} {kk : Nat} (hg : Gl X "enumerate") (hm : X.mg "enumerate" = none) (ha : PA X [e] ta) (hs : starEach [e] X.env = [(false, eval e X.env)] := by rfl) :
    PI X (.Tuple elts kk tpos) (.Call (.Name "enumerate" p) [e] [] pos) (iEnumA X.K ta) := by
  refine ⟨fun pins s σ H R I h => ?_⟩
  refine Call_ (ld_blt I hg hm boot_enumerate (PyProof.Rows.callWith_type1 (thn (ha.run pos pins s σ H _ I h) fun us s1 ⟨vs, H1, I1, r1, q1⟩ => ?_) hs rfl))
  obtain ⟨a, xs, ex, q⟩ := q1
  subst ex
  cases r1 with
  | cons r rr =>
    cases rr
    cases r
    rcases q with ⟨hq, q⟩ | ⟨hq, q⟩
    · obtain ⟨its, rv, p', hz⟩ := I1.list hq
      refine call_enumerate_list p'.isList fun h' he hit hsz hk => wpAny_pyIter_enum he ?_
      have I2 : Inv X pins σ H1 { s1 with heap := h' } := I1.kept (t' := s1.toks) hk
      refine ⟨s1.heap.objs.size + 1, [s1.heap.objs.size + 1, s1.heap.objs.size], _, _, H1, rfl, I2, turn_enum a (s1.heap.objs.size + 1) s1.heap.objs.size, ⟨⟨.none, he⟩, hit, Nat.succ_ne_self _⟩, fun b hb => ?_, q⟩
      have e' : b = s1.heap.objs.size + 1 ∨ b = s1.heap.objs.size := by simpa using hb
      have hle : s1.heap.objs.size ≤ b := by
        rcases e' with z | z
        · rw [z]; exact Nat.le_add_right _ _
        · rw [z]; exact Nat.le_refl _
      exact I1.fpOk hle (I1.hok.fresh hle)
    · obtain ⟨its, rv, p', hz⟩ := I1.tuple hq
      have hT0 : s1.heap.IsTuple a its.toArray := p'
      have hal : a < s1.heap.objs.size := by obtain ⟨_, q, _⟩ := hT0; exact Heap.lt_size q
      refine call_enumerate_tuple hT0 fun h' he hit hsz hk => wpAny_pyIter_enum he ?_
      have I2 : Inv X pins σ H1 { s1 with heap := h' } := I1.kept (t' := s1.toks) hk
      refine ⟨s1.heap.objs.size + 1, [s1.heap.objs.size + 1, s1.heap.objs.size], _, _, H1, rfl, I2, turn_enumT a (s1.heap.objs.size + 1) s1.heap.objs.size, ⟨⟨.none, he⟩, hit, Nat.succ_ne_self _, Nat.ne_of_lt hal, Nat.ne_of_gt (Nat.lt_succ_of_lt hal)⟩, fun b hb => ?_, q⟩
      have e' : b = s1.heap.objs.size + 1 ∨ b = s1.heap.objs.size := by simpa using hb
      have hle : s1.heap.objs.size ≤ b := by
        rcases e' with z | z
        · rw [z]; exact Nat.le_add_right _ _
        · rw [z]; exact Nat.le_refl _
      exact I1.fpOk hle (I1.hok.fresh hle)
theorem walk_enumT {K : PySem.W.Frag} {a : Addr} {xs : List V} : Walk (Itet K a) xs.length (fun H => SqT K H a xs) (YPair (fun i => some (.int (i : Nat))) (fun i => xs[i]?)) := by
  refine ⟨fun i _ hi q => ⟨xs, xs[i], q, by simp [hi]⟩, fun _ q => ⟨xs, q, Nat.le_refl _⟩, fun i H v H' _ q y => ?_⟩
  obtain ⟨T, x, h1, h2, h3, h4⟩ := y
  exact ⟨T, .int (i : Nat), x, h1, h2, h3, rfl, h4 xs q⟩
end AM
end

section
set_option linter.all false
set_option maxRecDepth 100000
set_option maxHeartbeats 2200000
/-! AM, between: max(a list of data, default = a value). -/
namespace AM
open PySem PySem.Spec PySem.W L2
/-! ### what is read is one -/
theorem maps_one {α β : Type} : ∀ {l m : List (α × β)}, l.map (·.1) = m.map (·.1) → l.map (·.2) = m.map (·.2) → l = m
  | [], [], _, _ => rfl
  | [], _ :: _, h, _ => nomatch h
  | _ :: _, [], h, _ => nomatch h
  | (a, b) :: l, (c, d) :: m, h1, h2 => by
    simp only [List.map_cons, List.cons.injEq] at h1 h2
    rw [h1.1, h2.1, maps_one h1.2 h2.2]
mutual
theorem reads_one {h : Heap} : ∀ {v : Value} {d : PyData} {as : List Addr}, Reads h v d as → ∀ {d' : PyData} {bs : List Addr}, Reads h v d' bs → d = d'
  | _, _, _, .none, _, _, q => by cases q; rfl
  | _, _, _, .bool _, _, _, q => by cases q; rfl
  | _, _, _, .int _ _, _, _, q => by cases q; rfl
  | _, _, _, .str _ _, _, _, q => by cases q; rfl
  | _, _, _, .list e1 e2 e3 r, _, _, q => by
    cases q with
    | list f1 f2 f3 r' => rw [e1] at f1; cases f1; rw [e3] at f3; cases f3; rw [reads_all_one r r']
    | tuple f1 f2 f3 r' => rw [e1] at f1; cases f1; rw [e2] at f2; exact absurd f2 (by decide)
    | dict f1 f2 f3 r' r'' => rw [e1] at f1; cases f1; rw [e2] at f2; exact absurd f2 (by decide)
  | _, _, _, .tuple e1 e2 e3 r, _, _, q => by
    cases q with
    | list f1 f2 f3 r' => rw [e1] at f1; cases f1; rw [e2] at f2; exact absurd f2 (by decide)
    | tuple f1 f2 f3 r' => rw [e1] at f1; cases f1; rw [e3] at f3; cases f3; rw [reads_all_one r r']
    | dict f1 f2 f3 r' r'' => rw [e1] at f1; cases f1; rw [e2] at f2; exact absurd f2 (by decide)
  | _, _, _, .dict e1 e2 e3 r1 r2, _, _, q => by
    cases q with
    | list f1 f2 f3 r' => rw [e1] at f1; cases f1; rw [e2] at f2; exact absurd f2 (by decide)
    | tuple f1 f2 f3 r' => rw [e1] at f1; cases f1; rw [e2] at f2; exact absurd f2 (by decide)
    | dict f1 f2 f3 r' r'' =>
      rw [e1] at f1; cases f1; rw [e3] at f3; cases f3
      have k1 := reads_all_one r1 r'
      have k2 := reads_all_one r2 r''
      rw [maps_one k1 k2]
theorem reads_all_one {h : Heap} : ∀ {vs : List Value} {ds : List PyData} {as : List Addr}, ReadsAll h vs ds as → ∀ {ds' : List PyData} {bs : List Addr}, ReadsAll h vs ds' bs → ds = ds'
  | _, _, _, .nil, _, _, q => by cases q; rfl
  | _, _, _, .cons r rs, _, _, q => by
    cases q with
    | cons r' rs' => rw [reads_one r r', reads_all_one rs rs']
end
def rMaxX (K : PySem.W.Frag) (x z : V) (H2 : Hp) (Q : VK) : Prop := ∃ (a : Addr) (xs : List V) (ds : List PyData), x = .ref a ∧ SqL K H2 a xs ∧ DpAll K H2 xs ds ∧ AlikeAll ds ∧ PyData.depthAll ds ≤ 60 ∧
  (ds = [] → Q z H2) ∧ ∀ (y : PyData) (ys : List PyData) (i : Nat) (u : V), ds = y :: ys → xs[i]? = some u → ds[i]? = some (maxD y ys) → Q u H2
def tMaxD (K : PySem.W.Frag) (te td : TE) : TE := fun σ H Q => te σ H fun x H1 => td σ H1 fun z H2 => rMaxX K x z H2 Q
def oneQ (td : TE) (K : PySem.W.Frag) (σ : L2.St) (Q : VK) : List V → Hp → Prop := fun vs H1 => match vs with
  | [x] => td σ H1 fun z H2 => rMaxX K x z H2 Q
  | _ => False
def oneR (K : PySem.W.Frag) (x : V) (Q : VK) : List V → Hp → Prop := fun vs H2 => match vs with
  | [z] => rMaxX K x z H2 Q
  | _ => False
section
variable {X : Cx}
theorem pe_maxD {e dx : Expr} {te td : TE} {p pos kp : Pos} (hc : X.calm = true) (hu : X.A.units + 65 < cLine) (hg : Gl X "max") (hm : X.mg "max" = none) (he : PE X e te) (hd : PE X dx td) (hs : starEach [e] X.env = (false, eval e X.env) :: starEach [] X.env) :
    PE X (.Call (.Name "max" p) [e] [⟨some "default", dx, kp⟩] pos) (tMaxD X.K te td) := by
  refine ⟨fun pins s σ H Q I h => ?_⟩
  refine wpAny_Call_Name_kw (ld_blt I hg hm (u := .builtin "max") (by decide +kernel) ?_)
  refine PyProof.Rows.callWith_kw (id := "max") (rest := []) (thn ((pa_cons he pa_nil hs).run pos pins s σ H (oneQ td X.K σ Q) I h) fun us t1 ⟨vs, H1, I1, r1, q1⟩ => ?_) (by rw [hs]; rfl) (by rw [hs]; rfl)
  unfold oneQ at q1
  split at q1 <;> first | exact q1.elim | skip
  rename_i x
  obtain ⟨u, rfl, ru⟩ := vals1 r1
  refine thn ((pk_cons (nm := some "default") hd pk_nil).run pos pins t1 σ H1 (oneR X.K x Q) I1 q1) fun ws t2 ⟨zs, H2, I2, r2, q2⟩ => ?_
  unfold oneR at q2
  split at q2 <;> first | exact q2.elim | skip
  rename_i z
  obtain ⟨v, rfl, rv⟩ := vals1 r2
  obtain ⟨a, xs, ds, rfl, hq, hp, ha, hl, q0, q3⟩ := q2
  obtain rfl : u = Value.ref a := ru
  obtain ⟨its, rl, pl, hz⟩ := I2.list hq
  obtain ⟨as, rs⟩ := Dp.readsAll I2 ds xs its hp rl
  have hzz : [(Str.ofString "default")].zip [v] = [(Str.ofString "default", v)] := rfl
  show wpAny (model X.prog X.w) X.A (PySem.call (Value.builtin "max") [Value.ref a] [(Str.ofString "default", v)]) _ _ _
  refine max_list_default (I2.ok.hd hc) pl.isList (by simpa using rs) ha (by omega) (fun e h' tk hk => ?_) fun y ys i w h' tk bs e hi hr hk => ?_
  · exact ⟨z, H2, I2.kept hk, rv, q0 e⟩
  · have hi2 : its[i]? = some w := by simpa using hi
    have hlen := rl.length
    have hil : i < xs.length := by rw [hlen]; exact (List.getElem?_eq_some_iff.mp hi2).1
    obtain ⟨x2, hx2⟩ : ∃ x2, xs[i]? = some x2 := ⟨xs[i], List.getElem?_eq_getElem hil⟩
    obtain ⟨w2, hw2, rx2⟩ := rl.get hx2
    rw [hi2] at hw2
    cases hw2
    obtain ⟨cs, c1, c2, _, _⟩ := readsAll_at rs i w hi2
    have c3 : ds.getD i .none = maxD y ys := reads_one (reads_keeps hk c1) hr
    have c4 : ds[i]? = some (maxD y ys) := by
      rw [← c3, List.getD_eq_getElem?_getD, List.getElem?_eq_getElem c2]
      rfl
    exact ⟨x2, H2, I2.kept hk, rx2, q3 y ys i x2 e hx2 c4⟩
def rMaxY (K : PySem.W.Frag) : List V → Hp → VK → Prop := fun vs H Q => ∃ (a : Addr) (xs : List V) (ds : List PyData), vs = [.ref a] ∧ SqL K H a xs ∧ DpAll K H xs ds ∧ AlikeAll ds ∧ PyData.depthAll ds ≤ 60 ∧ ds ≠ [] ∧
  ∀ (y : PyData) (ys : List PyData) (i : Nat) (u : V), ds = y :: ys → xs[i]? = some u → ds[i]? = some (maxD y ys) → Q u H
/-- max of a list of data -/
theorem cr_maxY (hc : X.calm = true) (hu : X.A.units + 65 < cLine) : CallR X (.builtin "max") (rMaxY X.K) := by
  intro pins s σ H vs us Q I r h
  obtain ⟨a, xs, ds, rfl, hq, hp, ha, hl, hn, q3⟩ := h
  obtain ⟨its, rl, pl, hz⟩ := I.list hq
  rw [Vals.ref1 r]
  obtain ⟨as, rs⟩ := Dp.readsAll I ds xs its hp rl
  cases ds with
  | nil => exact absurd rfl hn
  | cons y ys =>
    refine max_list_data (I.ok.hd hc) pl.isList (by simpa using rs) ha (by omega) fun i w h' tk bs hi hr hk => ?_
    have hi2 : its[i]? = some w := by simpa using hi
    have hlen := rl.length
    have hil : i < xs.length := by rw [hlen]; exact (List.getElem?_eq_some_iff.mp hi2).1
    obtain ⟨x2, hx2⟩ : ∃ x2, xs[i]? = some x2 := ⟨xs[i], List.getElem?_eq_getElem hil⟩
    obtain ⟨w2, hw2, rx2⟩ := rl.get hx2
    rw [hi2] at hw2
    cases hw2
    obtain ⟨cs, c1, c2, _, _⟩ := readsAll_at rs i w hi2
    have c3 : (y :: ys).getD i .none = maxD y ys := reads_one (reads_keeps hk c1) hr
    have c4 : (y :: ys)[i]? = some (maxD y ys) := by
      rw [← c3, List.getD_eq_getElem?_getD, List.getElem?_eq_getElem c2]
      rfl
    exact ⟨x2, H, I.kept hk, rx2, q3 y ys i x2 rfl hx2 c4⟩
end
end AM
end

section
set_option linter.all false
set_option maxRecDepth 100000
set_option maxHeartbeats 4000000
/-! AM, sixth part: the main theorem on expressions. -/
namespace AM
open PySem L2

theorem plainT_he {e : Expr} (h : plainT e = true) (env : PySem.Env) (whole : Sem Value) : isTrue e env whole = (do let v ← whole; standAt e.pos; holding [v] (truthy v)) := by
  cases e <;> first | rfl | cases h | (rename_i op _ _; cases op <;> first | rfl | cases h)
theorem star_cons {e : Expr} (h : noStar e = true) (es : List Expr) (env : PySem.Env) : starEach (e :: es) env = (false, eval e env) :: starEach es env := by
  cases e <;> first | rfl | cases h
theorem noSet_mark {e : Expr} (h : noSet e = true) (op : CmpOp) : behindInMarks op e = false := by
  cases e <;> first | rfl | cases h
theorem noSlice_ix {e : Expr} (h : noSlice e = true) : PlainIx e := by
  intro o i
  cases e <;> first | rfl | cases h
theorem noComp_sw {e : Expr} (h : noComp e = true) (t : Option Expr) (l : Nat) (env : PySem.Env) : swapsWith e t l env = pure false := by
  cases e <;> first | rfl | cases h
theorem ba {a b : Bool} (h : (a && b) = true) : a = true ∧ b = true := Bool.and_eq_true_iff.mp h
/-- a op1 b op2 c op3 d -/
def tChain3 (r r' r'' : R2) (ta tb tc td : TE) : TE := fun σ H Q => ta σ H fun x H1 => tb σ H1 fun y H2 => r x y H2 fun z H3 => ∃ k, z = .bl k ∧
  (if k = true then tc σ H3 fun w' H4 => r' y w' H4 fun z H5 => ∃ k, z = .bl k ∧ (if k = true then td σ H5 fun v' H6 => r'' w' v' H6 Q else Q (.bl false) H5) else Q (.bl false) H3)
open PyProof.Rows in
theorem pe_chain3 {X : Cx} {a b c d : Expr} {pos : _} {ta tb tc td : TE} {op op' op'' : CmpOp} {r r' r'' : R2} (ho : OpR X (compareOp op) r) (ho' : OpR X (compareOp op') r') (ho'' : OpR X (compareOp op'') r'') (ha : PE X a ta) (hb : PE X b tb) (hc : PE X c tc) (hd : PE X d td)
    (hm : lastMarks [op, op', op''] [b, c, d] = false) : PE X (.Compare a [op, op', op''] [b, c, d] pos) (tChain3 r r' r'' ta tb tc td) := by
  refine ⟨fun pins s σ H Q I h => ?_⟩
  refine Compare_chain (thn (ha.run pins s σ H _ I h) fun v s1 ⟨x, H1, I1, r1, q1⟩ => chain_link (thn (hb.run pins s1 σ H1 _ I1 q1) fun u s2 ⟨y, H2, I2, r2, q2⟩ =>
    thn (ho pins s2 σ H2 x y v u _ I2 r1 r2 q2) fun d s3 ⟨z, H3, I3, r3, k, e, q3⟩ => ?_)) hm
  subst e
  cases r3
  refine wpAny_truthy_bool ?_
  cases k with
  | false => exact ite_ff ⟨.bl false, H3, I3, rfl, q3⟩
  | true =>
    refine ite_tt (chain_link (thn (hc.run pins s3 σ H3 _ I3 q3) fun w' s4 ⟨z', H4, I4, r4, q4⟩ => thn (ho' pins s4 σ H4 y z' u w' _ I4 r2 r4 q4) fun d2 s5 ⟨z5, H5, I5, r5, k2, e2, q5⟩ => ?_))
    subst e2
    cases r5
    refine wpAny_truthy_bool ?_
    cases k2 with
    | false => exact ite_ff ⟨.bl false, H5, I5, rfl, q5⟩
    | true => exact ite_tt (chain_last (thn (hd.run pins s5 σ H5 _ I5 q5) fun v' s6 ⟨z6, H6, I6, r6, q6⟩ => ho'' pins s6 σ H6 z' z6 w' v' Q I6 r4 r6 q6))
open PyProof.Rows in
theorem pt_chain3 {X : Cx} {a b c d : Expr} {pos : _} {ta tb tc td : TE} {op op' op'' : CmpOp} {r r' r'' : R2} (ho : OpR X (compareOp op) r) (ho' : OpR X (compareOp op') r') (ho'' : OpR X (compareOp op'') r'') (ha : PE X a ta) (hb : PE X b tb) (hc : PE X c tc) (hd : PE X d td)
    (hm : lastMarks [op, op', op''] [b, c, d] = false) : PT X (.Compare a [op, op', op''] [b, c, d] pos) (tTest (tChain3 r r' r'' ta tb tc td)) := by
  refine ⟨fun pins s σ H Q I h => ?_⟩
  refine isTrue_chain (thn (ha.run pins s σ H _ I h) fun v s1 ⟨x, H1, I1, r1, q1⟩ => test_link (thn (hb.run pins s1 σ H1 _ I1 q1) fun u s2 ⟨y, H2, I2, r2, q2⟩ =>
    thn (ho pins s2 σ H2 x y v u _ I2 r1 r2 q2) fun d s3 ⟨z, H3, I3, r3, k, e, q3⟩ => ?_)) hm
  subst e
  cases r3
  refine wpAny_truthy_bool ?_
  cases k with
  | false =>
    obtain ⟨k', e', q'⟩ := q3
    cases e'
    exact ite_ff ⟨H3, I3, q'⟩
  | true =>
    refine ite_tt (test_link (thn (hc.run pins s3 σ H3 _ I3 q3) fun w' s4 ⟨z', H4, I4, r4, q4⟩ => thn (ho' pins s4 σ H4 y z' u w' _ I4 r2 r4 q4) fun d2 s5 ⟨z5, H5, I5, r5, k2, e2, q5⟩ => ?_))
    subst e2
    cases r5
    refine wpAny_truthy_bool ?_
    cases k2 with
    | false =>
      obtain ⟨k', e', q'⟩ := q5
      cases e'
      exact ite_ff ⟨H5, I5, q'⟩
    | true =>
      refine ite_tt (test_last (thn (hd.run pins s5 σ H5 _ I5 q5) fun v' s6 ⟨z6, H6, I6, r6, q6⟩ => thn (ho'' pins s6 σ H6 z' z6 w' v' _ I6 r4 r6 q6) fun d3 s7 ⟨z7, H7, I7, r7, k3, e3, q7⟩ => ?_))
      subst e3
      cases r7
      exact wpAny_truthy_bool ⟨H7, I7, q7⟩

section
variable {X : Cx} {cA : Str → Addr} {F : Hp} {β : List Addr} {S : Sto} {H : Hp}
theorem tru_ok2 {v : Va} {x : V} {b : Bool} (s : Sim X.K cA F β S H) (r : VR X.K F β v x) (h : tru S v = some b) : TruV X.K x H b := by
  cases v with
  | exc a => cases h
  | fnv _ _ => cases h
  | non => cases r; cases h; rfl
  | bl c => cases r; cases h; rfl
  | int i => cases r; cases h; rfl
  | str z => cases h
  | tup xs =>
    obtain ⟨a, ys, rfl, t, q⟩ := r
    cases h
    refine .inr (.inl ⟨ys, SqT.mono s.sub t, ?_⟩)
    have := q.len
    cases xs <;> cases ys <;> simp_all
  | lst xs =>
    obtain ⟨a, ys, rfl, t, q⟩ := r
    cases h
    refine .inl ⟨ys, SqL.of (s.sub _ _ t), ?_⟩
    have := q.len
    cases xs <;> cases ys <;> simp_all
  | dct xs =>
    cases h
    obtain ⟨a, ys, rfl, e2, q⟩ := LD.ok s (.inl rfl) r
    refine .inr (.inr ⟨ys, e2, ?_⟩)
    have := q.len
    cases xs <;> cases ys <;> simp_all
  | scr xs => cases h
  | loc n =>
    simp only [tru] at h
    split at h
    · rename_i xs e
      cases h
      obtain ⟨a, ys, rfl, e2, q⟩ := LV.ok s (.inr ⟨_, rfl, e⟩) r
      refine .inl ⟨ys, SqL.of e2, ?_⟩
      have := q.len
      cases xs <;> cases ys <;> simp_all
    · rename_i xs e
      cases h
      obtain ⟨a, ys, rfl, e2, q⟩ := LD.ok s (.inr ⟨_, rfl, e⟩) r
      refine .inr (.inr ⟨ys, e2, ?_⟩)
      have := q.len
      cases xs <;> cases ys <;> simp_all
    · cases h
theorem call_lenD : CallR X (.builtin "len") (fun xs H Q => ∃ x n, xs = [x] ∧ (LenV X.K x H n ∨ ∃ a kvs, x = .ref a ∧ Rd H a (.dK kvs) ∧ n = kvs.length) ∧ Q (.int n) H) := by
  intro pins s σ H xs us Q I r ⟨x, n, e, h, q⟩
  rcases h with h | ⟨a, kvs, ex, hd, en⟩
  · exact call_len pins s σ H xs us Q I r ⟨x, n, e, h, q⟩
  · subst e ex en
    cases r with
    | cons r0 rt =>
      cases rt
      cases r0
      exact d_len I hd fun t s' I' => ⟨.int _, H, I', ⟨t, rfl⟩, q⟩
theorem len_ok {v : Va} {x : V} {Q : VK} (s : Sim X.K cA F β S H) (r : VR X.K F β v x) (h : wLen v S (post X.K cA F β Q)) : ∃ n : Nat, (LenV X.K x H n ∨ ∃ a kvs, x = .ref a ∧ Rd H a (.dK kvs) ∧ n = kvs.length) ∧ Q (.int n) H := by
  have lst : ∀ {xs : List Va}, LV S v xs → post X.K cA F β Q (.int xs.length) S → ∃ n : Nat, (LenV X.K x H n ∨ ∃ a kvs, x = .ref a ∧ Rd H a (.dK kvs) ∧ n = kvs.length) ∧ Q (.int n) H := fun hv p => by
    obtain ⟨a, ys, rfl, e, q⟩ := hv.ok s r
    exact ⟨_, .inl (.inl ⟨ys, SqL.of e, q.len⟩), post_here (v := .int _) s rfl p⟩
  have dic : ∀ {xs : List (Key × Va)}, LR S v xs → post X.K cA F β Q (.int xs.length) S → ∃ n : Nat, (LenV X.K x H n ∨ ∃ a kvs, x = .ref a ∧ Rd H a (.dK kvs) ∧ n = kvs.length) ∧ Q (.int n) H := fun hv p => by
    obtain ⟨a, ys, rfl, e, q⟩ := hv.ok s r
    exact ⟨_, .inr ⟨a, ys, rfl, e, q.len⟩, post_here (v := .int _) s rfl p⟩
  cases v with
  | exc a => exact h.elim
  | fnv _ _ => exact h.elim
  | non => exact h.elim
  | bl c => exact h.elim
  | int i => exact h.elim
  | str z => cases r; exact ⟨z.length, .inl ⟨h.1, rfl⟩, post_here (v := .int _) s rfl h.2⟩
  | tup xs =>
    obtain ⟨a, ys, rfl, t, q⟩ := r
    exact ⟨xs.length, .inl (.inr ⟨ys, SqT.mono s.sub t, q.len⟩), post_here (v := .int _) s rfl h⟩
  | lst xs => exact lst (.inl rfl) h
  | dct xs => exact dic (.inl (.inl rfl)) h
  | scr ns =>
    obtain ⟨a, rfl, t⟩ := r
    exact ⟨ns.length, .inl (.inl ⟨_, SqL.mono s.sub t, by simp⟩), post_here (v := .int _) s rfl h⟩
  | loc n =>
    obtain ⟨o, e, h⟩ := h
    cases o with
    | lst xs => exact lst (.inr ⟨_, rfl, e⟩) h
    | dct xs => exact dic (.inl (.inr ⟨_, rfl, e⟩)) h
    | lok xs => exact dic (.inr ⟨_, rfl, e⟩) h
    | _ => exact h.elim
theorem abs_ok {v : Va} {x : V} {Q : VK} (s : Sim X.K cA F β S H) (r : VR X.K F β v x) (h : wAbs v S (post X.K cA F β Q)) : ∃ i : Int, x = .int i ∧ Q (.int (if i < 0 then -i else i)) H := by
  cases v <;> first | exact h.elim | skip
  cases r
  exact ⟨_, rfl, post_here (v := .int _) s rfl h⟩
theorem neg_ok {v : Va} {x : V} {Q : VK} (s : Sim X.K cA F β S H) (r : VR X.K F β v x) (h : wNeg v S (post X.K cA F β Q)) : ∃ i : Int, x = .int i ∧ Q (.int (-i)) H := by
  cases v <;> first | exact h.elim | skip
  cases r
  exact ⟨_, rfl, post_here (v := .int _) s rfl h⟩
theorem ty_ok {v : Va} {x : V} {t : Ty} {b : Bool} (s : Sim X.K cA F β S H) (r : VR X.K F β v x) (h : tyIs S v t = some b) : ∃ tv, TyX X.K H x tv ∧ PySem.W.kitOne X.K tv (.type (tyS t)) = some b := by
  cases v with
  | exc a => cases h
  | fnv _ _ => cases h
  | non => cases r; refine ⟨_, .base .non, ?_⟩; cases t <;> cases h <;> exact kit_ty (by decide +kernel)
  | bl c => cases r; refine ⟨_, .base (.bl c), ?_⟩; cases t <;> cases h <;> exact kit_ty (by decide +kernel)
  | int i => cases r; refine ⟨_, .base (.int i), ?_⟩; cases t <;> cases h <;> exact kit_ty (by decide +kernel)
  | str z => cases r; refine ⟨_, .base (.str z), ?_⟩; cases t <;> cases h <;> exact kit_ty (by decide +kernel)
  | tup xs =>
    obtain ⟨a, ys, rfl, tt, q⟩ := r
    have key : TyX X.K H (.ref a) (.type "tuple") := by
      rcases SqT.mono s.sub tt with (e | ⟨o, e⟩) | ⟨o, its, n, e, e2, _⟩
      · exact .base (.tup e)
      · exact .fTuple e
      · exact .kTuple e e2
    refine ⟨_, key, ?_⟩; cases t <;> cases h <;> exact kit_ty (by decide +kernel)
  | lst xs =>
    obtain ⟨a, ys, rfl, tt, q⟩ := r
    refine ⟨_, .base (.lst (s.sub _ _ tt)), ?_⟩; cases t <;> cases h <;> exact kit_ty (by decide +kernel)
  | scr ns =>
    obtain ⟨a, rfl, tt⟩ := r
    have key : TyX X.K H (.ref a) (.type "list") := by
      rcases SqL.mono s.sub tt with (e | ⟨o, e⟩) | ⟨o, its, n, e, e2, _⟩
      · exact .base (.lst e)
      · exact .base (.frz e)
      · exact .kList e e2
    refine ⟨_, key, ?_⟩; cases t <;> cases h <;> exact kit_ty (by decide +kernel)
  | dct xs =>
    obtain ⟨a, ys, rfl, tt, q⟩ := r
    refine ⟨_, .base (.dK (s.sub _ _ tt)), ?_⟩; cases t <;> cases h <;> exact kit_ty (by decide +kernel)
  | loc n =>
    obtain ⟨a, rfl, tt⟩ := r
    simp only [tyIs] at h
    split at h
    · rename_i xs e
      obtain ⟨b, e1, _, ys, e2, q⟩ := s.at e
      rw [tt] at e1
      cases (Option.some.inj e1)
      refine ⟨_, .base (.lst e2), ?_⟩; cases t <;> cases h <;> exact kit_ty (by decide +kernel)
    · rename_i xs e
      obtain ⟨b, e1, _, ys, e2, q⟩ := s.at e
      rw [tt] at e1
      cases (Option.some.inj e1)
      refine ⟨_, .base (.dK e2), ?_⟩; cases t <;> cases h <;> exact kit_ty (by decide +kernel)
    · cases h
theorem at_len {α γ : Type} {xs : List α} {ys : List γ} (hl : xs.length = ys.length) {i : Int} {v : α} (h : atI xs i = some v) : ∃ j : Nat, xs[j]? = some v ∧ ∀ w : γ, ys[j]? = some w → atI ys i = some w := by
  unfold atI at h ⊢
  rw [← hl]
  cases e : ixN xs.length i with
  | none => rw [e] at h; cases h
  | some j => rw [e] at h; exact ⟨j, h, fun w q => q⟩
theorem ix_dict (hu : X.A.units + 1 < cLine) : IxR X (fun x y H Q => ∃ a v, x = .ref a ∧ DGet H a y (some v) ∧ Q v H) := by
  intro value slice pins s σ H x y v u Q I rx ry ⟨a, w, e, g, q⟩ hs
  subst e
  cases rx
  exact PyProof.Rows.tail_any (dict_typeIs I g) PySem.F.slot_dict_getitem.lookup (d_getItem hu I g ry fun w' s' I' r' => ⟨w, H, I', r', q⟩) hs
theorem sub_ok : OpS X cA wSub (fun x y H Q => ((rIxL X.K x y H Q ∨ rIxT X.K x y H Q) ∨ rIxS x y H Q) ∨ ∃ a v, x = .ref a ∧ DGet H a y (some v) ∧ Q v H) := fun F β S H v u x y Q s r1 r2 q => by
  have lst : ∀ {xs : List Va} {i : Int}, LV S v xs → u = .int i → (∃ w, L2.atI xs i = some w ∧ post X.K cA F β Q w S) → rIxL X.K x y H Q := fun {xs i} hv hu ⟨w, h1, h2⟩ => by
    subst hu
    cases r2
    obtain ⟨a, ys, rfl, e2, qq⟩ := hv.ok s r1
    obtain ⟨j, hj, hk⟩ := at_len qq.len h1
    obtain ⟨z, hz, rz⟩ := qq.get hj
    exact ⟨a, ys, _, z, rfl, rfl, SqL.of e2, hk z hz, post_here s rz h2⟩
  have dic : ∀ {kvs : List (Key × Va)}, LR S v kvs → (∃ kk, keyV u = some kk ∧ ∃ w, dget kvs kk = some w ∧ post X.K cA F β Q w S) → ∃ a v, x = .ref a ∧ DGet H a y (some v) ∧ Q v H := fun {kvs} hv ⟨kk, h0, w, h1, h2⟩ => by
    obtain ⟨a, ys, rfl, e2, qq⟩ := hv.ok s r1
    obtain ⟨z, hz, rz⟩ := (qq.val kk).1 w h1
    exact ⟨a, z, rfl, .inl ⟨ys, kk, e2, kV_keyV h0 r2, hz.symm⟩, post_here s rz h2⟩
  unfold wSub at q
  split at q <;> first | exact q.elim | skip
  · obtain ⟨a, ys, rfl, t, qq⟩ := r1
    cases r2
    obtain ⟨w, h1, h2⟩ := q
    obtain ⟨j, hj, hk⟩ := at_len qq.len h1
    obtain ⟨z, hz, rz⟩ := qq.get hj
    exact .inl (.inl (.inr ⟨a, ys, _, z, rfl, rfl, SqT.mono s.sub t, hk z hz, post_here s rz h2⟩))
  · exact .inl (.inl (.inl (lst (.inl rfl) rfl q)))
  · obtain ⟨o, h0, q⟩ := q
    unfold subO at q
    split at q
    · exact .inl (.inl (.inl (lst (.inr ⟨_, rfl, h0⟩) rfl q)))
    · exact .inr (dic (.inl (.inr ⟨_, rfl, h0⟩)) q)
    · exact .inr (dic (.inr ⟨_, rfl, h0⟩) q)
    · exact q.elim
  · exact .inr (dic (.inl (.inl rfl)) q)
  · obtain ⟨a, rfl, t⟩ := r1
    cases r2
    obtain ⟨n, h1, h2⟩ := q
    obtain ⟨j, hj, hk⟩ := at_len (γ := V) (ys := List.map V.int _) (by rw [List.length_map]) h1
    exact .inl (.inl (.inl ⟨a, _, _, .int n, rfl, rfl, SqL.mono s.sub t, hk (.int n) (by rw [List.getElem?_map, hj]; rfl), post_here (v := .int n) s rfl h2⟩))
  · cases r1; cases r2
    obtain ⟨c, h0, h1, h2⟩ := q
    exact .inl (.inr ⟨_, _, c, rfl, rfl, h0, h1, post_here (v := .str _) s rfl h2⟩)
theorem VRs.drop {K : PySem.W.Frag} {F : Hp} {β : List Addr} : ∀ {xs : List Va} {ys : List V} (n : Nat), VRs K F β xs ys → VRs K F β (xs.drop n) (ys.drop n)
  | xs, ys, 0, h => h
  | [], _, n + 1, h => by cases (show _ = [] from h); rfl
  | x :: xs, _, n + 1, ⟨y, r, e, _, q⟩ => by subst e; exact VRs.drop n q
theorem VRs.take {K : PySem.W.Frag} {F : Hp} {β : List Addr} : ∀ {xs : List Va} {ys : List V} (n : Nat), VRs K F β xs ys → VRs K F β (xs.take n) (ys.take n)
  | xs, ys, 0, h => rfl
  | [], _, n + 1, h => by cases (show _ = [] from h); rfl
  | x :: xs, _, n + 1, ⟨y, r, e, q, qs⟩ => by subst e; exact ⟨y, _, rfl, q, VRs.take n qs⟩
theorem VRs.dropLast {K : PySem.W.Frag} {F : Hp} {β : List Addr} {xs : List Va} {ys : List V} (h : VRs K F β xs ys) : VRs K F β xs.dropLast ys.dropLast := by
  rw [List.dropLast_eq_take, List.dropLast_eq_take, h.len]; exact h.take _
theorem VRs.set {K : PySem.W.Frag} {F : Hp} {β : List Addr} : ∀ {xs : List Va} {ys : List V} (n : Nat) {v : Va} {x : V}, VRs K F β xs ys → VR K F β v x → VRs K F β (xs.set n v) (ys.set n x)
  | [], _, n, _, _, h, _ => by cases (show _ = [] from h); rfl
  | x :: xs, _, 0, _, _, ⟨y, r, e, q, qs⟩, h => by subst e; exact ⟨_, _, rfl, h, qs⟩
  | x :: xs, _, n + 1, _, _, ⟨y, r, e, q, qs⟩, h => by subst e; exact ⟨_, _, rfl, q, VRs.set n qs h⟩
theorem VRs.reverse {K : PySem.W.Frag} {F : Hp} {β : List Addr} : ∀ {xs : List Va} {ys : List V}, VRs K F β xs ys → VRs K F β xs.reverse ys.reverse
  | [], _, h => by cases (show _ = [] from h); rfl
  | x :: xs, _, ⟨y, r, e, q, qs⟩ => by
    subst e
    rw [List.reverse_cons, List.reverse_cons]
    exact (VRs.reverse qs).append ⟨y, [], rfl, q, rfl⟩
theorem cut_ok2 {F : Hp} {β : List Addr} {xs : List Va} {ys : List V} (h : VRs X.K F β xs ys) (lo hi : Option Int) : VRs X.K F β (cutA xs lo hi) (cutV ys lo hi) := by
  unfold cutA cutV
  rw [h.len]
  exact (h.drop _).take _
theorem scr_cut {F : Hp} {β : List Addr} (ns : List Int) (lo hi : Option Int) : VRs X.K F β ((cutA ns lo hi).map Va.int) (cutV (ns.map V.int) lo hi) := by
  have := cut_ok2 (X := X) (F := F) (β := β) (VRs.ints.mpr (rfl : List.map V.int ns = _)) lo hi
  unfold cutA at this ⊢
  rw [List.map_take, List.map_drop]
  rw [List.length_map] at this
  exact this
theorem VRs.mk {K : PySem.W.Frag} {F : Hp} {β : List Addr} {v : Va} {x : V} {vs : List Va} {xs : List V} (h : VR K F β v x) (h' : VRs K F β vs xs) : VRs K F β (v :: vs) (x :: xs) := ⟨x, xs, rfl, h, h'⟩
theorem VRs.one {K : PySem.W.Frag} {F : Hp} {β : List Addr} {v : Va} {x : V} (h : VR K F β v x) : VRs K F β [v] [x] := ⟨x, [], rfl, h, rfl⟩
theorem cutA_whole {α : Type} {xs : List α} {lo hi : Option Int} (h : HT.sIx xs.length 0 lo = 0 ∧ HT.sIx xs.length xs.length hi = xs.length) : cutA xs lo hi = xs := by
  unfold cutA
  rw [h.1, h.2, List.drop_zero, Nat.sub_zero, List.take_length]
theorem slice_ok {F : Hp} {β : List Addr} {S : Sto} {H : Hp} {v : Va} {x : V} {lo hi : Option Int} {Q : VK} (s : Sim X.K cA F β S H) (r : VR X.K F β v x) (q : wSlice v lo hi S (post X.K cA F β Q)) :
    (rSlL X.K x lo hi H Q ∨ rSlA X.K x lo hi H Q) ∨ rSlS x lo hi H Q := by
  unfold wSlice at q
  split at q <;> first | exact q.elim | skip
  · obtain ⟨a, ys, rfl, t, qq⟩ := r
    exact .inl (.inl ⟨a, ys, rfl, SqL.of (s.sub _ _ t), post_new s (cut_ok2 qq _ _) q⟩)
  · obtain ⟨xs, h0, q⟩ := q
    obtain ⟨a, ys, rfl, e2, qq⟩ := LV.ok s (.inr ⟨_, rfl, h0⟩) r
    exact .inl (.inl ⟨a, ys, rfl, SqL.of e2, post_new s (cut_ok2 qq _ _) q⟩)
  · obtain ⟨a, rfl, t⟩ := r
    exact .inl (.inl ⟨a, _, rfl, SqL.mono s.sub t, post_new s (scr_cut _ _ _) q⟩)
  · obtain ⟨a, ys, rfl, t, qq⟩ := r
    refine .inl (.inr ⟨a, ys, rfl, SqT.mono s.sub t, fun hw => ?_, fun _ => post_tup s (cut_ok2 qq _ _) q⟩)
    rw [← qq.len] at hw
    rw [cutA_whole hw] at q
    exact q F β H _ (Ext.refl _ _) s ⟨a, ys, rfl, t, qq⟩
  · cases r
    exact .inr ⟨_, rfl, q.1, post_here (v := .str _) s rfl q.2⟩
end
/-! ### built-in functions and methods -/
section
variable {X : Cx} {cA : Str → Addr}
def bfV : Bf → Value
  | .list => .type "list" | .tuple => .type "tuple" | .sum => .builtin "sum" | .max1 => .builtin "max" | .maxT => .builtin "max" | .min1 => .builtin "min" | .max2 => .builtin "max" | .min2 => .builtin "min" | .sorted => .builtin "sorted"
  | .dict => .type "dict" | .ord => .builtin "ord" | .str => .type "str" | .int => .type "int" | .all => .builtin "all" | .any => .builtin "any"
def BltS (X : Cx) (cA : Str → Addr) (f : Bf) (r : List V → Hp → VK → Prop) : Prop := ∀ (F : Hp) (β : List Addr) (S : Sto) (H : Hp) (vs : List Va) (xs : List V) (Q : VK), Sim X.K cA F β S H → VRs X.K F β vs xs → wBlt f vs S (post X.K cA F β Q) → r xs H Q
theorem one_of {K : PySem.W.Frag} {F : Hp} {β : List Addr} {v : Va} {xs : List V} (h : VRs K F β [v] xs) : ∃ x, xs = [x] ∧ VR K F β v x := by
  obtain ⟨x, r, e, q, e2⟩ := h
  cases (show r = [] from e2)
  exact ⟨x, e, q⟩
theorem two_of {K : PySem.W.Frag} {F : Hp} {β : List Addr} {v u : Va} {xs : List V} (h : VRs K F β [v, u] xs) : ∃ x y, xs = [x, y] ∧ VR K F β v x ∧ VR K F β u y := by
  obtain ⟨x, r, e, q, h⟩ := h
  obtain ⟨y, e2, q2⟩ := one_of h
  exact ⟨x, y, by rw [e, e2], q, q2⟩
theorem LV.ints {K : PySem.W.Frag} {F : Hp} {β : List Addr} {S : Sto} {H : Hp} {v : Va} {x : V} {ns : List Int} (s : Sim K cA F β S H) (h : LV S v (ns.map Va.int)) (r : VR K F β v x) : ∃ a, x = .ref a ∧ H a = some (.lst (ns.map V.int)) := by
  obtain ⟨a, ys, e, h1, h2⟩ := h.ok s r
  rw [VRs.ints.mp h2] at h1
  exact ⟨a, e, h1⟩
theorem LV.bls {K : PySem.W.Frag} {F : Hp} {β : List Addr} {S : Sto} {H : Hp} {v : Va} {x : V} {ns : List Bool} (s : Sim K cA F β S H) (h : LV S v (ns.map Va.bl)) (r : VR K F β v x) : ∃ a, x = .ref a ∧ H a = some (.lst (ns.map V.bl)) := by
  obtain ⟨a, ys, e, h1, h2⟩ := h.ok s r
  rw [VRs.bls.mp h2] at h1
  exact ⟨a, e, h1⟩
theorem keysV_ok {K : PySem.W.Frag} {F : Hp} {β : List Addr} : ∀ {kvs : List (Key × Va)} {ys : List (Key × V)}, VRk K F β kvs ys → VRs K F β (kvs.map fun kv => keyA kv.1) (ys.map fun kv => kV kv.1)
  | [], _, h => by cases (show _ = [] from h); rfl
  | (k, v) :: r, _, ⟨y, t, e, _, qs⟩ => by subst e; exact ⟨_, _, rfl, keyA_ok k, keysV_ok qs⟩
theorem CallR.or {f : Value} {r r' : List V → Hp → VK → Prop} (h : CallR X f r) (h' : CallR X f r') : CallR X f (fun xs H Q => r xs H Q ∨ r' xs H Q) := fun pins s σ H xs us Q I rx q =>
  q.elim (fun q => h pins s σ H xs us Q I rx q) fun q => h' pins s σ H xs us Q I rx q
theorem VRs.atX {K : PySem.W.Frag} {F : Hp} {β : List Addr} {xs : List Va} {ys : List V} {i : Nat} (q : VRs K F β xs ys) {x : V} (h : ys[i]? = some x) : ∃ v, xs[i]? = some v ∧ VR K F β v x := by
  have hi : i < xs.length := by rw [q.len]; exact lt_of_get h
  obtain ⟨z, h1, h2⟩ := q.get (i := i) (v := xs[i]) (by simp [hi])
  rw [h] at h1
  cases h1
  exact ⟨xs[i], by simp [hi], h2⟩
theorem blt_ok (hc : X.calm = true) (hu65 : X.A.units + 65 < cLine) (f : Bf) : ∃ r, CallR X (bfV f) r ∧ BltS X cA f r := by
  cases f
  case list =>
    refine ⟨_, CallR.or call_list_of (call_listD hc), fun F β S H vs xs Q s rs q => ?_⟩
    have dic : ∀ {v : Va} {kvs : List (Key × Va)}, vs = [v] → LD S v kvs → post X.K cA F β Q (.loc S.length) (S ++ [.lst (kvs.map fun kv => keyA kv.1)]) → ∃ (a : Addr) (kvs : List (Key × V)), xs = [.ref a] ∧ Rd H a (.dK kvs) ∧ ∀ p, H p = none → Q (.ref p) (upd H p (.lst (kvs.map fun kv => kV kv.1))) := fun {v kvs} hv hd p => by
      subst hv
      obtain ⟨x, rfl, r⟩ := one_of rs
      obtain ⟨a, ys, rfl, e2, qq⟩ := hd.ok s r
      refine ⟨a, ys, rfl, Rd.of e2, post_new s ?_ p⟩
      exact keysV_ok qq
    unfold wBlt at q
    split at q <;> first | exact q.elim | skip
    all_goals simp only [reduceCtorEq] at *
    · obtain ⟨x, rfl, a, ys, rfl, t, qq⟩ := one_of rs
      exact .inl ⟨a, ys, rfl, .inl (SqL.of (s.sub _ _ t)), post_new s qq q⟩
    · obtain ⟨x, rfl, a, ys, rfl, t, qq⟩ := one_of rs
      exact .inl ⟨a, ys, rfl, .inr (SqT.mono s.sub t), post_new s qq q⟩
    · obtain ⟨x, rfl, a, rfl, t⟩ := one_of rs
      exact .inl ⟨a, _, rfl, .inl (SqL.mono s.sub t), post_new s (VRs.ints.mpr rfl) q⟩
    · obtain ⟨o, h0, q⟩ := q
      cases o with
      | lst zs =>
        obtain ⟨x, rfl, r⟩ := one_of rs
        obtain ⟨a, ys, rfl, e2, qq⟩ := LV.ok s (.inr ⟨_, rfl, h0⟩) r
        exact .inl ⟨a, ys, rfl, .inl (SqL.of e2), post_new s qq q⟩
      | dct kvs => exact .inr (dic rfl (.inr ⟨_, rfl, h0⟩) q)
      | _ => exact q.elim
    · exact .inr (dic rfl (.inl rfl) q)
  case dict =>
    refine ⟨_, call_dictD, fun F β S H vs xs Q s rs q => ?_⟩
    unfold wBlt at q
    split at q <;> first | exact q.elim | skip
    all_goals simp only [reduceCtorEq] at *
    obtain ⟨x, rfl, r⟩ := one_of rs
    obtain ⟨kvs, hd, q⟩ := q
    obtain ⟨a, ys, rfl, e2, qq⟩ := hd.ok s r
    exact ⟨a, ys, rfl, Rd.of e2, post_dct s qq q⟩
  case tuple =>
    refine ⟨_, call_tuple_of, fun F β S H vs xs Q s rs q => ?_⟩
    unfold wBlt at q
    split at q <;> first | exact q.elim | skip
    all_goals simp only [reduceCtorEq] at *
    · obtain ⟨x, rfl, a, ys, rfl, t, qq⟩ := one_of rs
      exact ⟨a, ys, rfl, .inl ⟨SqL.of (s.sub _ _ t), post_tup s qq q⟩⟩
    · obtain ⟨x, rfl, a, ys, rfl, t, qq⟩ := one_of rs
      exact ⟨a, ys, rfl, .inr ⟨SqT.mono s.sub t, q F β H _ (Ext.refl _ _) s ⟨a, ys, rfl, t, qq⟩⟩⟩
    · obtain ⟨x, rfl, r⟩ := one_of rs
      obtain ⟨zs, h0, q⟩ := q
      obtain ⟨a, ys, rfl, e2, qq⟩ := LV.ok s (.inr ⟨_, rfl, h0⟩) r
      exact ⟨a, ys, rfl, .inl ⟨SqL.of e2, post_tup s qq q⟩⟩
  case sum =>
    refine ⟨_, cr_sum hc, fun F β S H vs xs Q s rs q => ?_⟩
    unfold wBlt at q
    split at q <;> first | exact q.elim | skip
    all_goals simp only [reduceCtorEq] at *
    obtain ⟨x, rfl, r⟩ := one_of rs
    obtain ⟨ns, h1, q⟩ := q
    obtain ⟨a, rfl, e⟩ := h1.ints s r
    exact ⟨a, ns, rfl, SqL.of e, post_here (v := .int _) s rfl q⟩
  case max1 =>
    refine ⟨_, cr_max hc, fun F β S H vs xs Q s rs q => ?_⟩
    unfold wBlt at q
    split at q <;> first | exact q.elim | skip
    all_goals simp only [reduceCtorEq] at *
    obtain ⟨x, rfl, r⟩ := one_of rs
    obtain ⟨ns, h1, h2, q⟩ := q
    obtain ⟨a, rfl, e⟩ := h1.ints s r
    exact ⟨a, ns, rfl, SqL.of e, h2, fun m h3 h4 => post_here (v := .int _) s rfl (q m h3 h4)⟩
  case maxT =>
    refine ⟨_, cr_maxY hc hu65, fun F β S H vs xs Q s rs q => ?_⟩
    unfold wBlt at q
    split at q <;> first | exact q.elim | skip
    all_goals simp only [reduceCtorEq] at *
    obtain ⟨x, rfl, r⟩ := one_of rs
    obtain ⟨us, ds, k1, k2, k3, k4, k5, k6⟩ := q
    obtain ⟨b, ys, rfl, e3, qq⟩ := k1.ok s r
    refine ⟨b, ys, ds, rfl, SqL.of e3, DVs.dp s k2 qq, k3, k4, k5, fun y zs i w e hw hd => ?_⟩
    obtain ⟨w', hw', rw'⟩ := qq.atX hw
    exact post_here s rw' (k6 y zs i w' e hw' hd)
  case min1 =>
    refine ⟨_, cr_min hc, fun F β S H vs xs Q s rs q => ?_⟩
    unfold wBlt at q
    split at q <;> first | exact q.elim | skip
    all_goals simp only [reduceCtorEq] at *
    obtain ⟨x, rfl, r⟩ := one_of rs
    obtain ⟨ns, h1, h2, q⟩ := q
    obtain ⟨a, rfl, e⟩ := h1.ints s r
    exact ⟨a, ns, rfl, SqL.of e, h2, fun m h3 h4 => post_here (v := .int _) s rfl (q m h3 h4)⟩
  case max2 =>
    refine ⟨_, call_max2 hc, fun F β S H vs xs Q s rs q => ?_⟩
    unfold wBlt at q
    split at q <;> first | exact q.elim | skip
    all_goals simp only [reduceCtorEq] at *
    obtain ⟨x, y, rfl, r1, r2⟩ := two_of rs
    cases r1; cases r2
    exact ⟨_, _, rfl, post_here (v := .int _) s rfl q⟩
  case min2 =>
    refine ⟨_, call_min2 hc, fun F β S H vs xs Q s rs q => ?_⟩
    unfold wBlt at q
    split at q <;> first | exact q.elim | skip
    all_goals simp only [reduceCtorEq] at *
    obtain ⟨x, y, rfl, r1, r2⟩ := two_of rs
    cases r1; cases r2
    exact ⟨_, _, rfl, post_here (v := .int _) s rfl q⟩
  case sorted =>
    refine ⟨_, CallR.or (CallR.or cr_sortedI (call_sortedDI hc)) (CallR.or cr_sortedS (call_sortedD hc)), fun F β S H vs xs Q s rs q => ?_⟩
    unfold wBlt at q
    split at q <;> first | exact q.elim | skip
    all_goals simp only [reduceCtorEq] at *
    obtain ⟨x, rfl, r⟩ := one_of rs
    rcases q with (⟨kvs, ks, hd, h1, q⟩ | ⟨ns, h1, q⟩) | ⟨kvs, ks, hd, h1, q⟩ | ⟨ns, h1, q⟩
    · obtain ⟨a, ys, rfl, e2, qq⟩ := hd.ok s r
      exact .inl (.inr ⟨a, ys, ks, rfl, Rd.of e2, qq.keys.trans h1, q.1, fun ns' p h3 h4 hp => post_new s (VRs.ints.mpr rfl) (q.2 ns' h3 h4) p hp⟩)
    · obtain ⟨a, rfl, e⟩ := h1.ints s r
      exact .inl (.inl ⟨a, ns, rfl, SqL.of e, fun ns' p h3 h4 hp => post_new s (VRs.ints.mpr rfl) (q ns' h3 h4) p hp⟩)
    · obtain ⟨a, ys, rfl, e2, qq⟩ := hd.ok s r
      exact .inr (.inr ⟨a, ys, ks, rfl, Rd.of e2, qq.keys.trans h1, q.1, fun ns' p h3 h4 hp => post_new s (VRs.strs.mpr rfl) (q.2 ns' h3 h4) p hp⟩)
    · obtain ⟨a, ys, rfl, h2, h3⟩ := h1.ok s r
      rw [VRs.strs.mp h3] at h2
      exact .inr (.inl ⟨a, ns, rfl, SqL.of h2, q.1, fun ns' p h3 h4 hp => post_new s (VRs.strs.mpr rfl) (q.2 ns' h3 h4) p hp⟩)
  case ord =>
    refine ⟨_, call_ord, fun F β S H vs xs Q s rs q => ?_⟩
    unfold wBlt at q
    split at q <;> first | exact q.elim | skip
    all_goals simp only [reduceCtorEq] at *
    obtain ⟨x, rfl, r⟩ := one_of rs
    cases r
    exact ⟨_, rfl, q.1, post_here (v := .int _) s rfl q.2⟩
  case str =>
    refine ⟨_, call_str_int, fun F β S H vs xs Q s rs q => ?_⟩
    unfold wBlt at q
    split at q <;> first | exact q.elim | skip
    all_goals simp only [reduceCtorEq] at *
    obtain ⟨x, rfl, r⟩ := one_of rs
    cases r
    exact ⟨_, rfl, q.1, post_here (v := .str _) s rfl q.2⟩
  case int =>
    refine ⟨_, CallR.or call_int_str call_int1, fun F β S H vs xs Q s rs q => ?_⟩
    unfold wBlt at q
    split at q <;> first | exact q.elim | skip
    all_goals simp only [reduceCtorEq] at *
    · obtain ⟨x, rfl, r⟩ := one_of rs
      cases r
      exact .inr (.inr ⟨_, rfl, post_here (v := .int _) s rfl q⟩)
    · obtain ⟨x, rfl, r⟩ := one_of rs
      cases r
      exact .inr (.inl ⟨_, rfl, post_here (v := .int _) s rfl q⟩)
    · obtain ⟨x, rfl, r⟩ := one_of rs
      cases r
      obtain ⟨n, h1, h2, q⟩ := q
      exact .inl ⟨_, n, rfl, h1, h2, post_here (v := .int _) s rfl q⟩
  case all =>
    refine ⟨_, cr_all hc, fun F β S H vs xs Q s rs q => ?_⟩
    unfold wBlt at q
    split at q <;> first | exact q.elim | skip
    all_goals simp only [reduceCtorEq] at *
    obtain ⟨x, rfl, r⟩ := one_of rs
    obtain ⟨bs, h1, q⟩ := q
    obtain ⟨a, rfl, e⟩ := h1.bls s r
    exact ⟨a, bs, rfl, SqL.of e, post_here (v := .bl _) s rfl q⟩
  case any =>
    refine ⟨_, cr_any hc, fun F β S H vs xs Q s rs q => ?_⟩
    unfold wBlt at q
    split at q <;> first | exact q.elim | skip
    all_goals simp only [reduceCtorEq] at *
    obtain ⟨x, rfl, r⟩ := one_of rs
    obtain ⟨bs, h1, q⟩ := q
    obtain ⟨a, rfl, e⟩ := h1.bls s r
    exact ⟨a, bs, rfl, SqL.of e, post_here (v := .bl _) s rfl q⟩
theorem blt_call {f : Bf} {r : List V → Hp → VK → Prop} {e : Expr} {es : List Expr} {t : TA} {p pos : Pos} (hr : CallR X (bfV f) r) (hg : Gl X (bfN f)) (hm : X.mg (bfN f) = none) (ha : PA X (e :: es) t)
    (he : starEach (e :: es) X.env = (false, eval e X.env) :: starEach es X.env) (hpl : (backTo pos (starEach es X.env)).any (·.1) = false) : PE X (.Call (.Name (bfN f) p) (e :: es) [] pos) (tCB r t) := by
  cases f
  case list => exact pe_callTy hr hg hm (by decide +kernel) ha (he := he) (hpl := hpl)
  case tuple => exact pe_callTy hr hg hm (by decide +kernel) ha (he := he) (hpl := hpl)
  case dict => exact pe_callTy hr hg hm (by decide +kernel) ha (he := he) (hpl := hpl)
  case sum => exact pe_callB hr hg hm (by decide +kernel) ha (he := he) (hpl := hpl)
  case max1 => exact pe_callB hr hg hm (by decide +kernel) ha (he := he) (hpl := hpl)
  case maxT => exact pe_callB hr hg hm (by decide +kernel) ha (he := he) (hpl := hpl)
  case min1 => exact pe_callB hr hg hm (by decide +kernel) ha (he := he) (hpl := hpl)
  case max2 => exact pe_callB hr hg hm (by decide +kernel) ha (he := he) (hpl := hpl)
  case min2 => exact pe_callB hr hg hm (by decide +kernel) ha (he := he) (hpl := hpl)
  case sorted => exact pe_callB hr hg hm (by decide +kernel) ha (he := he) (hpl := hpl)
  case ord => exact pe_callB hr hg hm (by decide +kernel) ha (he := he) (hpl := hpl)
  case str => exact pe_callTy hr hg hm (by decide +kernel) ha (he := he) (hpl := hpl)
  case int => exact pe_callTy hr hg hm (by decide +kernel) ha (he := he) (hpl := hpl)
  case all => exact pe_callB hr hg hm (by decide +kernel) ha (he := he) (hpl := hpl)
  case any => exact pe_callB hr hg hm (by decide +kernel) ha (he := he) (hpl := hpl)

def mfT : Mf → String
  | .join => "str" | .upper => "str" | .partition => "str" | .split => "str" | .endswith => "str" | .find => "str" | _ => "list"
def mfI : Mf → String
  | .append => "list.append" | .pop => "list.pop" | .extend => "list.extend" | .insert => "list.insert" | .join => "str.join" | .index => "list.index" | .clear => "list.clear" | .remove => "list.remove" | .upper => "str.upper" | .partition => "str.partition" | .split => "str.split" | .endswith => "str.endswith" | .find => "str.find" | .count => "list.count"
theorem mOk_ty {F : Hp} {β : List Addr} {S : Sto} {H : Hp} {m : Mf} {v : Va} {x : V} (s : Sim X.K cA F β S H) (r : VR X.K F β v x) (h : mOk S m v) : tyV X.K (mfT m) x H := by
  have key : (∃ xs, LV S v xs) → tyV X.K "list" x H := fun ⟨xs, h⟩ => by
    obtain ⟨a, ys, rfl, e, _⟩ := h.ok s r
    exact .inl ⟨rfl, ys, SqL.of e⟩
  cases m <;> first | exact key h | skip
  all_goals
    obtain ⟨a, rfl⟩ := h
    cases r
    rfl
def MthS (X : Cx) (cA : Str → Addr) (m : Mf) (r : V → List V → Hp → VK → Prop) : Prop := ∀ (F : Hp) (β : List Addr) (S : Sto) (H : Hp) (v : Va) (x : V) (vs : List Va) (xs : List V) (Q : VK), Sim X.K cA F β S H → VR X.K F β v x → VRs X.K F β vs xs → wMth m v vs S (post X.K cA F β Q) → r x xs H Q
/-- a list of the store written anew -/
theorem put_lst {K : PySem.W.Frag} {F : Hp} {β : List Addr} {S : Sto} {H : Hp} {k : Nat} {a : Addr} {o : Ob} {xs : List Va} {ys : List V} (s : Sim K cA F β S H) (hk : S[k]? = some o) (ha : β[k]? = some a) (r : VRs K F β xs ys) (no : ∀ q, o ≠ .lok q := by intro _ h; cases h) : Sim K cA F β (S.set k (.lst xs)) (upd H a (.lst ys)) := by
  obtain ⟨b, e1, fa, _⟩ := s.at hk
  rw [ha] at e1
  cases e1
  exact s.put (lt_of_get hk) ha (fa.out no) ⟨ys, upd_same, r⟩
theorem loc_ok {K : PySem.W.Frag} {F : Hp} {β : List Addr} {S : Sto} {H : Hp} {k : Nat} {x : V} {xs : List Va} (s : Sim K cA F β S H) (hk : S[k]? = some (.lst xs)) (r : VR K F β (.loc k) x) : ∃ a ys, x = .ref a ∧ β[k]? = some a ∧ H a = some (.lst ys) ∧ VRs K F β xs ys := by
  obtain ⟨a, rfl, t⟩ := r
  obtain ⟨b, e1, _, ys, e2, q⟩ := s.at hk
  rw [t] at e1
  cases (Option.some.inj e1)
  exact ⟨a, ys, rfl, t, e2, q⟩
theorem mth_ok (hu1 : X.A.units + 65 < cLine) (m : Mf) : ∃ r, MtR X (mfI m) r ∧ MthS X cA m r := by
  cases m
  case count =>
    refine ⟨_, mt_countD hu1, fun F β S H v x vs xs Q s r rs q => ?_⟩
    unfold wMth at q
    split at q <;> first | exact q.elim | skip
    all_goals simp only [reduceCtorEq] at *
    obtain ⟨d, ds, h0, h1, h2, h3, q⟩ := q
    obtain ⟨y, rfl, ry⟩ := one_of rs
    have hd := DV.dp s h0 r
    obtain ⟨a, rfl⟩ : ∃ a, x = .ref a := by
      cases hd; exact ⟨_, rfl⟩
    exact ⟨a, y, d, ds, rfl, rfl, hd, DV.dp s h1 ry, h2, h3, post_here (v := .int _) s rfl q⟩
  case append =>
    refine ⟨_, mt_append, fun F β S H v x vs xs Q s r rs q => ?_⟩
    unfold wMth at q
    split at q <;> first | exact q.elim | skip
    all_goals simp only [reduceCtorEq] at *
    obtain ⟨zs, h0, h1, q⟩ := q
    obtain ⟨a, ys, rfl, ha, e2, qq⟩ := loc_ok s h0 r
    obtain ⟨y, rfl, ry⟩ := one_of rs
    refine ⟨a, ys, y, rfl, rfl, e2, by rw [← qq.len]; exact Nat.lt_trans h1 (by decide), post_here (v := .non) (put_lst s h0 ha ?_) rfl q⟩
    exact VRs.append qq (VRs.one ry)
  case pop =>
    refine ⟨_, mt_pop, fun F β S H v x vs xs Q s r rs q => ?_⟩
    unfold wMth at q
    split at q <;> first | exact q.elim | skip
    all_goals simp only [reduceCtorEq] at *
    obtain ⟨zs, h0, w, h1, q⟩ := q
    obtain ⟨a, ys, rfl, ha, e2, qq⟩ := loc_ok s h0 r
    obtain ⟨z, hz, rz⟩ := qq.get h1
    cases (show xs = [] from rs)
    refine ⟨a, ys, z, rfl, rfl, e2, by rw [← qq.len]; exact hz, post_here (put_lst s h0 ha qq.dropLast) rz q⟩
  case extend =>
    refine ⟨_, mt_extend, fun F β S H v x vs xs Q s r rs q => ?_⟩
    unfold wMth at q
    split at q <;> first | exact q.elim | skip
    all_goals simp only [reduceCtorEq] at *
    obtain ⟨zs, h0, ws, hz, h1, q⟩ := q
    obtain ⟨a, ys, rfl, ha, e2, qq⟩ := loc_ok s h0 r
    obtain ⟨y, rfl, ry⟩ := one_of rs
    obtain ⟨b, us, rfl, e3, qu⟩ := hz.ok s ry
    exact ⟨a, b, ys, us, rfl, rfl, e2, e3, by rw [← qq.len, ← qu.len]; exact Nat.le_trans h1 (by decide), post_here (v := .non) (put_lst s h0 ha (qq.append qu)) rfl q⟩
  case insert =>
    refine ⟨_, mt_insert, fun F β S H v x vs xs Q s r rs q => ?_⟩
    unfold wMth at q
    split at q <;> first | exact q.elim | skip
    all_goals simp only [reduceCtorEq] at *
    obtain ⟨zs, h0, h1, h2, h3, q⟩ := q
    obtain ⟨a, ys, rfl, ha, e2, qq⟩ := loc_ok s h0 r
    obtain ⟨i, y, rfl, ri, ry⟩ := two_of rs
    cases ri
    refine ⟨a, ys, _, y, rfl, rfl, e2, by rw [← qq.len]; exact Nat.lt_trans h1 (by decide), h2, h3, post_here (v := .non) (put_lst s h0 ha ?_) rfl q⟩
    exact VRs.append (VRs.append (qq.take _) (VRs.one ry)) (qq.drop _)
  case join =>
    refine ⟨_, mt_join, fun F β S H v x vs xs Q s r rs q => ?_⟩
    unfold wMth at q
    split at q <;> first | exact q.elim | skip
    all_goals simp only [reduceCtorEq] at *
    obtain ⟨ws, h0, h1, q⟩ := q
    cases r
    obtain ⟨y, rfl, ry⟩ := one_of rs
    rcases h0 with rfl | h0
    · obtain ⟨a, ys, rfl, t, qq⟩ := ry
      rw [VRs.strs.mp qq] at t
      exact ⟨_, a, ws, rfl, rfl, .inr (SqT.mono s.sub t), h1, post_here (v := .str _) s rfl q⟩
    · obtain ⟨a, ys, rfl, t, qq⟩ := h0.ok s ry
      rw [VRs.strs.mp qq] at t
      exact ⟨_, a, ws, rfl, rfl, .inl (SqL.of t), h1, post_here (v := .str _) s rfl q⟩
  case index =>
    refine ⟨_, mt_indexD hu1, fun F β S H v x vs xs Q s r rs q => ?_⟩
    unfold wMth at q
    split at q <;> first | exact q.elim | skip
    all_goals simp only [reduceCtorEq] at *
    obtain ⟨d, ds, j, z, h0, h1, h2, h3, h4, h5, h6, q⟩ := q
    obtain ⟨y, rfl, ry⟩ := one_of rs
    have hd := DV.dp s h0 r
    obtain ⟨a, rfl⟩ : ∃ a, x = .ref a := by
      cases hd; exact ⟨_, rfl⟩
    exact ⟨a, y, d, ds, j, z, rfl, rfl, hd, DV.dp s h1 ry, h2, h3, h4, h5, h6, post_here (v := .int _) s rfl q⟩
  case clear =>
    refine ⟨_, mt_clear, fun F β S H v x vs xs Q s r rs q => ?_⟩
    unfold wMth at q
    split at q <;> first | exact q.elim | skip
    all_goals simp only [reduceCtorEq] at *
    obtain ⟨zs, h0, q⟩ := q
    obtain ⟨a, ys, rfl, ha, e2, qq⟩ := loc_ok s h0 r
    cases (show xs = [] from rs)
    exact ⟨a, ys, rfl, rfl, e2, post_here (v := .non) (put_lst s h0 ha (show VRs _ _ _ [] [] from rfl)) rfl q⟩
  case upper =>
    refine ⟨_, mt_upper, fun F β S H v x vs xs Q s r rs q => ?_⟩
    unfold wMth at q
    split at q <;> first | exact q.elim | skip
    all_goals simp only [reduceCtorEq] at *
    obtain ⟨h1, q⟩ := q
    cases r
    cases (show xs = [] from rs)
    exact ⟨_, rfl, rfl, h1, post_here (v := .str _) s rfl q⟩
  case partition =>
    refine ⟨_, mt_partition, fun F β S H v x vs xs Q s r rs q => ?_⟩
    unfold wMth at q
    split at q <;> first | exact q.elim | skip
    all_goals simp only [reduceCtorEq] at *
    obtain ⟨h1, h2, q⟩ := q
    cases r
    obtain ⟨y, rfl, ry⟩ := one_of rs
    cases ry
    exact ⟨_, _, rfl, rfl, h1, h2, post_tup s (VRs.strs (ns := [_, _, _]).mpr rfl) q⟩
  case split =>
    refine ⟨_, mt_split, fun F β S H v x vs xs Q s r rs q => ?_⟩
    unfold wMth at q
    split at q <;> first | exact q.elim | skip
    all_goals simp only [reduceCtorEq] at *
    obtain ⟨h1, h2, q⟩ := q
    cases r
    obtain ⟨y, rfl, ry⟩ := one_of rs
    cases ry
    exact ⟨_, _, rfl, rfl, h1, h2, post_new s (VRs.strs.mpr rfl) q⟩
  case endswith =>
    refine ⟨_, mt_endswith, fun F β S H v x vs xs Q s r rs q => ?_⟩
    unfold wMth at q
    split at q <;> first | exact q.elim | skip
    all_goals simp only [reduceCtorEq] at *
    cases r
    obtain ⟨y, rfl, ry⟩ := one_of rs
    cases ry
    exact ⟨_, _, rfl, rfl, post_here (v := .bl _) s rfl q⟩
  case find =>
    refine ⟨_, mt_find, fun F β S H v x vs xs Q s r rs q => ?_⟩
    unfold wMth at q
    split at q <;> first | exact q.elim | skip
    all_goals simp only [reduceCtorEq] at *
    cases r
    obtain ⟨y, rfl, ry⟩ := one_of rs
    cases ry
    exact ⟨_, _, rfl, rfl, post_here (v := .int _) s rfl q⟩
  case remove =>
    refine ⟨_, mt_remove, fun F β S H v x vs xs Q s r rs q => ?_⟩
    unfold wMth at q
    split at q <;> first | exact q.elim | skip
    all_goals simp only [reduceCtorEq] at *
    obtain ⟨ns, j, h0, h1, h2, q⟩ := q
    obtain ⟨a, ys, rfl, ha, e2, qq⟩ := loc_ok s h0 r
    obtain ⟨y, rfl, ry⟩ := one_of rs
    cases ry
    cases VRs.ints.mp qq
    exact ⟨a, ns, _, j, rfl, rfl, e2, h1, h2, post_here (v := .non) (put_lst s h0 ha (VRs.ints.mpr rfl)) rfl q⟩
theorem few_ok {es : List Expr} {pos : Pos} {env : PySem.Env} (h1 : (backTo pos (starEach es env)).any (·.1) = false) (h2 : es.length < 28) : ((backTo pos (starEach es env)).all (fun x => !x.1) && (backToKw pos (keywordEach [] env)).all (fun x => x.1.isSome)
      && decide (es.length + ([] : List Keyword).length + (if ([] : List Keyword).isEmpty then 0 else 1) < 30)) = true := by
  have e1 : (backTo pos (starEach es env)).all (fun x => !x.1) = true := by
    rw [List.all_eq_true]
    intro x hx
    rw [List.any_eq_false] at h1
    have := h1 x hx
    simpa using this
  rw [e1]
  have e2 : (backToKw pos (keywordEach [] env)).all (fun x => x.1.isSome) = true := rfl
  rw [e2]
  simp
  omega
theorem plainB_ok {o : Expr} (h : plainB o = true) (nm : Str) (env : PySem.Env) (w : Sem Value) : attributeBase o nm env w = w := by
  cases o <;> first | rfl | cases h | skip
  rename_i f as ks p
  cases as <;> first | cases h | skip
  cases f <;> rfl
/-- a method of a built-in thing, of no arguments -/
theorem mth_call0 {m : Mf} {r : V → List V → Hp → VK → Prop} {o : Expr} {to : TE} {apos pos : Pos} (hr : MtR X (mfI m) r) (ho : PE X o to) (hb : plainB o = true) (hl : (apos.endLine == pos.line) = true) (hn : mfA m = 0) :
    PE X (.Call (.Attribute o (mfN m) apos) [] [] pos) (tBM0 X.K (mfT m) r to) := by
  have hbase := plainB_ok hb (mfN m) X.env (eval o X.env)
  cases m <;> first | cases hn | skip
  · exact pe_bm0 PySem.F.plainAttrs_list PySem.F.slot_list_pop PySem.F.type_list_pop hr ho hbase hl
  · exact pe_bm0 PySem.F.plainAttrs_list PySem.F.slot_list_clear PySem.F.type_list_clear hr ho hbase hl
  · exact pe_bm0 PySem.F.plainAttrs_str PySem.F.slot_str_upper PySem.F.type_str_upper hr ho hbase hl
/-- .. of some -/
theorem mth_call {m : Mf} {r : V → List V → Hp → VK → Prop} {o e : Expr} {es : List Expr} {to : TE} {t : TA} {apos pos : Pos} (hr : MtR X (mfI m) r) (ho : PE X o to) (ha : PA X (e :: es) t) (hb : plainB o = true) (hl : (apos.endLine == pos.line) = true)
    (hn : (e :: es).length = mfA m) (hst : (backTo pos (starEach (e :: es) X.env)).any (·.1) = false) (c1 : starEach (e :: es) X.env = (false, eval e X.env) :: starEach es X.env) (c2 : (backTo pos (starEach es X.env)).any (·.1) = false) :
    PE X (.Call (.Attribute o (mfN m) apos) (e :: es) [] pos) (tBM X.K (mfT m) r to t) := by
  have hbase := plainB_ok hb (mfN m) X.env (eval o X.env)
  have hf : ((backTo pos (starEach (e :: es) X.env)).all (fun x => !x.1) && (backToKw pos (keywordEach [] X.env)).all (fun x => x.1.isSome)
      && decide ((e :: es).length + ([] : List Keyword).length + (if ([] : List Keyword).isEmpty then 0 else 1) < 30)) = true := few_ok hst (by rw [hn]; cases m <;> decide)
  cases m
  case append => exact pe_bm PySem.F.plainAttrs_list PySem.F.slot_list_append PySem.F.type_list_append hr ho ha hbase hf hl c1 c2
  case pop => cases hn
  case extend => exact pe_bm PySem.F.plainAttrs_list PySem.F.slot_list_extend PySem.F.type_list_extend hr ho ha hbase hf hl c1 c2
  case insert => exact pe_bm PySem.F.plainAttrs_list PySem.F.slot_list_insert PySem.F.type_list_insert hr ho ha hbase hf hl c1 c2
  case join => exact pe_bm PySem.F.plainAttrs_str PySem.F.slot_str_join PySem.F.type_str_join hr ho ha hbase hf hl c1 c2
  case index => exact pe_bm PySem.F.plainAttrs_list PySem.F.slot_list_index PySem.F.type_list_index hr ho ha hbase hf hl c1 c2
  case clear => cases hn
  case upper => cases hn
  case partition => exact pe_bm PySem.F.plainAttrs_str PySem.F.slot_str_partition PySem.F.type_str_partition hr ho ha hbase hf hl c1 c2
  case split => exact pe_bm PySem.F.plainAttrs_str PySem.F.slot_str_split PySem.F.type_str_split hr ho ha hbase hf hl c1 c2
  case endswith => exact pe_bm PySem.F.plainAttrs_str PySem.F.slot_str_endswith PySem.F.type_str_endswith hr ho ha hbase hf hl c1 c2
  case find => exact pe_bm PySem.F.plainAttrs_str PySem.F.slot_str_find PySem.F.type_str_find hr ho ha hbase hf hl c1 c2
  case remove => exact pe_bm PySem.F.plainAttrs_list PySem.F.slot_list_remove PySem.F.type_list_remove hr ho ha hbase hf hl c1 c2
  case count => exact pe_bm PySem.F.plainAttrs_list PySem.F.slot_list_count PySem.F.type_list_count hr ho ha hbase hf hl c1 c2
end
/-! ### objects -/
section
variable {X : Cx} {CX : CXT} {n : Nat} {E : St → XK} {x m : Str} {p pos apos : Pos} {e o : Expr} {es : List Expr} {to : TE} {t : TA}
/-- a method, by what the thing turns out to be -/
def tMethD (X : Cx) (CX : CXT) (n : Nat) (E : St → XK) (m : Str) (to : TE) (t : TA) : TE := fun σ H Q => to σ H fun x H1 => ∃ (a C dx : Addr) (fs : List (Str × V)) (g : Addr) (fd : FuncData) (ps : List Str) (sp : Sp),
  x = .ref a ∧ H1 a = some (.ins C dx fs) ∧ fs.lookup m = none ∧ Cls X.K C ∧ Meth X.K C m g ∧ Binds X.K fd ps [] ∧ FnOk X.prog X.w X.K X.mg X.base CX n g fd ps sp ∧ t σ H1 fun vs H2 => sp (x :: vs) H2 Q (E σ)
theorem pe_methD {pl : Sem Bool} (hr : Room n X.A) (hx : ∀ σ, PassesAt CX X σ (E σ)) (ho : PE X o to) (ha : PA X (e :: es) t) (c1 : starEach (e :: es) X.env = (false, eval e X.env) :: starEach es X.env) (c2 : (backTo pos (starEach es X.env)).any (·.1) = false)
    (ht : eval (.Call (.Attribute o m apos) (e :: es) [] pos) X.env = (do
      let ov ← eval o X.env
      standAt apos.atName
      let (f, first) ← holding [ov] (getMethod ov m pl)
      callWith pos f first (backTo pos (starEach (e :: es) X.env)) (backToKw pos (keywordEach [] X.env)))) : PE X (.Call (.Attribute o m apos) (e :: es) [] pos) (tMethD X CX n E m to t) := by
  refine ⟨fun pins s σ H Q I h => PySem.W.methodCall_KW (pl := pl) (thn (ho.run pins s σ H _ I h) fun w s1 ⟨y, H1, I1, ry, b, C, dx, fs, g, fd, ps, sp, ey, hb, hl, hc, hm, hbi, F, q⟩ => ?_) ht⟩
  cases ey
  cases ry
  refine getmeth_ok I1 hb hc hm hl (PySem.W.callWith_K (first := [.ref b]) (h₀ := X.base) I.ok.mod.kin hm.kp (thn (ha.run pos pins s1 σ H1 _ I1 q) fun ws s2 ⟨ys, H2, I2, rs, q2⟩ => ⟨I2.kIn, ?_⟩) c1 c2)
  exact run_fnS (us := .ref b :: ws) (vs := .ref b :: ys) F hr hbi (hx σ) I2 (.cons rfl rs) q2
theorem pe_methD0 {pl : Sem Bool} (hr : Room n X.A) (hx : ∀ σ, PassesAt CX X σ (E σ)) (ho : PE X o to)
    (ht : eval (.Call (.Attribute o m apos) [] [] pos) X.env = (do
      let ov ← eval o X.env
      standAt apos.atName
      let (f, first) ← holding [ov] (getMethod ov m pl)
      callWith pos f first (backTo pos (starEach [] X.env)) (backToKw pos (keywordEach [] X.env)))) : PE X (.Call (.Attribute o m apos) [] [] pos) (tMethD X CX n E m to tNil) := by
  refine ⟨fun pins s σ H Q I h => PySem.W.methodCall_KW (pl := pl) (thn (ho.run pins s σ H _ I h) fun w s1 ⟨y, H1, I1, ry, b, C, dx, fs, g, fd, ps, sp, ey, hb, hl, hc, hm, hbi, F, q⟩ => ?_) ht⟩
  cases ey
  cases ry
  exact getmeth_ok I1 hb hc hm hl (PySem.W.callWith_K0 (first := [.ref b]) I1.kIn hm.kp (run_fnS (us := [.ref b]) (vs := [.ref b]) F hr hbi (hx σ) I1 (.cons rfl .nil) q))
/-- any thing's method, plainly written -/
theorem mcall_eq {env : PySem.Env} (hb : plainB o = true) (hl : (apos.endLine == pos.line) = true) (hf : ((backTo pos (starEach es env)).all (fun x => !x.1) && (backToKw pos (keywordEach [] env)).all (fun x => x.1.isSome) && decide (es.length + ([] : List Keyword).length + (if ([] : List Keyword).isEmpty then 0 else 1) < 30)) = true) :
    eval (.Call (.Attribute o m apos) es [] pos) env = (do
      let ov ← eval o env
      standAt apos.atName
      let (f, first) ← holding [ov] (getMethod ov m (do return (← importBound o env).getD true))
      callWith pos f first (backTo pos (starEach es env)) (backToKw pos (keywordEach [] env))) := by
  have hform : methodCallForm (es.length + ([] : List Keyword).length) (backTo pos (starEach es env)) (backToKw pos (keywordEach [] env)) = true := hf
  have hpos : methodCallPos true o env apos pos = pure pos := by unfold methodCallPos; simp [hl]
  rw [arm_eval_Call, plainB_ok hb]
  unfold methodCall
  rw [hform, hpos]
  rfl
theorem pe_mcall (hr : Room n X.A) (hx : ∀ σ, PassesAt CX X σ (E σ)) (hb : plainB o = true) (hl : (apos.endLine == pos.line) = true) (hn : (e :: es).length < 28) (h0 : (backTo pos (starEach (e :: es) X.env)).any (·.1) = false) (ho : PE X o to) (ha : PA X (e :: es) t) (c1 : starEach (e :: es) X.env = (false, eval e X.env) :: starEach es X.env) (c2 : (backTo pos (starEach es X.env)).any (·.1) = false) :
    PE X (.Call (.Attribute o m apos) (e :: es) [] pos) (tMethD X CX n E m to t) := pe_methD hr hx ho ha c1 c2 (mcall_eq hb hl (few_ok h0 hn))
theorem pe_mcall0 (hr : Room n X.A) (hx : ∀ σ, PassesAt CX X σ (E σ)) (hb : plainB o = true) (hl : (apos.endLine == pos.line) = true) (ho : PE X o to) : PE X (.Call (.Attribute o m apos) [] [] pos) (tMethD X CX n E m to tNil) :=
  pe_methD0 hr hx ho (mcall_eq hb hl rfl)
/-- what a maker must give -/
def spMk (C : Addr) (sp : Sp) (vs : List V) (H : Hp) (Q : VK) (E : XK) : Prop := ∀ x dx, H x = none → H dx = none → dx ≠ x → sp (.ref x :: vs) (upd (upd H dx (.own x)) x (.ins C dx [])) (fun v H2 => v = .non ∧ Q (.ref x) H2) E
theorem run_makeS {C f : Addr} {fd : FuncData} {ps : List Str} {sp : Sp} {pins : List (Addr × Obj)} {σ : St} {H : Hp} {s : Shared} {Q : VK} {us : List Value} {vs : List V} (M : Mk X.K C f) (F : FnOk X.prog X.w X.K X.mg X.base CX n f fd ps sp) (hr : Room (n + 1) X.A) (hb : Binds X.K fd ps [])
    (hx : PassesAt CX X σ (E σ)) (I : Inv X pins σ H s) (r : Vals vs us) (h : spMk C sp vs H Q (E σ)) : wpAny (model X.prog X.w) X.A (PySem.call (.ref C) us) (EP X pins σ Q) X.xe s := by
  have hq := h (s.heap.objs.size + 1) s.heap.objs.size (I.hok.fresh (Nat.le_succ _)) (I.hok.fresh (Nat.le_refl _)) (Nat.ne_of_lt (Nat.lt_succ_self _))
  have J := Inv.made (C := C) I
  have r2 : Vals (V.ref (s.heap.objs.size + 1) :: vs) (Value.ref (s.heap.objs.size + 1) :: us) := .cons rfl r
  have hl : (Value.ref (s.heap.objs.size + 1) :: us).length = ps.length := (r2.length.symm).trans (F.len _ _ _ _ hq)
  have b := hb _ (Value.ref (s.heap.objs.size + 1) :: us) J.kIn (by rw [List.append_nil]; exact hl)
  rw [List.append_nil] at b
  refine wpAny_call (make_map (f := f) I.kIn M.makes M.init (beq_iff_eq.mp M.fn) (codeAny_mono (F.run _ X.stack _ _ ⟨Value.ref (s.heap.objs.size + 1) :: us, []⟩ (Value.ref (s.heap.objs.size + 1) :: us) _ _ (E σ) (hr.make C us []) (J.env0.make C us []) b r2 hq) fun res s' hq' => ?_))
  cases res with
  | error er => exact hx pins _ _ er s' J hq'
  | ok fl =>
    cases fl with
    | ret u =>
      obtain ⟨v, H', I3, rv, ev, q3⟩ := J.after hq'
      cases ev
      exact ⟨rv, V.ref (s.heap.objs.size + 1), H', I3, rfl, q3⟩
    | next => exact False.elim hq'
    | brk => exact False.elim hq'
    | cont => exact False.elim hq'
theorem pe_makeS {C f : Addr} {fd : FuncData} {ps : List Str} {sp : Sp} (M : Mk X.K C f) (F : FnOk X.prog X.w X.K X.mg X.base CX n f fd ps sp) (hr : Room (n + 1) X.A) (hg : Gl X x) (hm : X.mg x = some (.ref C)) (hb : Binds X.K fd ps []) (hx : ∀ σ, PassesAt CX X σ (E σ))
    (ha : PA X (e :: es) t) (hdb : (x == ("__debug__" : Str)) = false) (c1 : starEach (e :: es) X.env = (false, eval e X.env) :: starEach es X.env) (c2 : (backTo pos (starEach es X.env)).any (·.1) = false) :
    PE X (.Call (.Name x p) (e :: es) [] pos) (fun σ H Q => t σ H fun vs H1 => spMk C sp vs H1 Q (E σ)) :=
  ⟨fun pins s σ H Q I h => wpAny_Call_Name_kw (ld_glob I hg hm (PySem.W.callWith_K (h₀ := X.base) I.ok.mod.kin M.kp (thn (ha.run pos pins s σ H _ I h) fun us s1 ⟨vs, H1, I1, r, q⟩ => ⟨I1.kIn, run_makeS M F hr hb (hx σ) I1 r q⟩) c1 c2) hdb)⟩
theorem pe_makeS0 {C f : Addr} {fd : FuncData} {ps : List Str} {sp : Sp} (M : Mk X.K C f) (F : FnOk X.prog X.w X.K X.mg X.base CX n f fd ps sp) (hr : Room (n + 1) X.A) (hg : Gl X x) (hm : X.mg x = some (.ref C)) (hb : Binds X.K fd ps []) (hx : ∀ σ, PassesAt CX X σ (E σ))
    (hdb : (x == ("__debug__" : Str)) = false) : PE X (.Call (.Name x p) [] [] pos) (fun σ H Q => spMk C sp [] H Q (E σ)) :=
  ⟨fun pins s σ H Q I h => wpAny_Call_Name_kw (ld_glob I hg hm (PySem.W.callWith_K0 I.kIn M.kp (run_makeS (us := []) M F hr hb (hx σ) I .nil h)) hdb)⟩
/-- a def's call with nothing handed over -/
theorem pe_callZ {f : Addr} {fd : FuncData} {ps : List Str} {sp : Sp} (F : FnOk X.prog X.w X.K X.mg X.base CX n f fd ps sp) (hr : Room n X.A) (hg : Gl X x) (hm : X.mg x = some (.ref f)) (kp : PySem.W.keepIn X.K (.ref f) = true) (hb : Binds X.K fd ps []) (hx : ∀ σ, PassesAt CX X σ (E σ))
    (hdb : (x == ("__debug__" : Str)) = false) : PE X (.Call (.Name x p) [] [] pos) (fun σ H Q => sp [] H Q (E σ)) :=
  ⟨fun pins s σ H Q I h => wpAny_Call_Name_kw (ld_glob I hg hm (PySem.W.callWith_K0 I.kIn kp (run_fnS (us := []) (vs := []) F hr hb (hx σ) I .nil h)) hdb)⟩
theorem run_makeO {C : Addr} {pins : List (Addr × Obj)} {σ : St} {H : Hp} {s : Shared} {Q : VK} (mk : PySem.W.makesIn X.K C = true) (ini : PySem.W.findIn X.K (.ref C) "__init__" = some (some (.builtin "object.__init__"))) (top : PySem.W.mroIn X.K C (.type "object") = some true)
    (I : Inv X pins σ H s) (h : ∀ x dx, H x = none → H dx = none → dx ≠ x → Q (.ref x) (upd (upd H dx (.own x)) x (.ins C dx []))) : wpAny (model X.prog X.w) X.A (PySem.call (.ref C) []) (EP X pins σ Q) X.xe s := by
  have hq := h (s.heap.objs.size + 1) s.heap.objs.size (I.hok.fresh (Nat.le_succ _)) (I.hok.fresh (Nat.le_refl _)) (Nat.ne_of_lt (Nat.lt_succ_self _))
  have J := Inv.made (C := C) I
  refine wpAny_call (make_map0 I.kIn mk ini (fun self => PySem.W.Looks.of_pure (PySem.W.oi_bind _)) ?_)
  have ho : ((s.heap.push PySem.W.emptyDict).push (PySem.W.instObj C s.heap.objs.size)).get? (s.heap.objs.size + 1) = some (PySem.W.instObj C s.heap.objs.size) := by
    rw [← Heap.size_push s.heap PySem.W.emptyDict]
    exact Heap.get?_push_size _ rfl
  have t1 := NwA.type_at (M := model X.prog X.w) ho rfl
  have t2 : PySem.W.Looks (model X.prog X.w) ((s.heap.push PySem.W.emptyDict).push (PySem.W.instObj C s.heap.objs.size)) (isInstance (.ref (s.heap.objs.size + 1)) (.type "object")) true := t1.andThen (PySem.W.looks_mroIn J.kIn top)
  refine codeAny_call_builtin PySem.W.oi_plain PySem.W.entry_oi (@PySem.W.check_slot (model X.prog X.w) _ _ _ "object.__init__" "object" "__init__" (.ref (s.heap.objs.size + 1)) [] [] _ PySem.W.oi_kind PySem.W.oi_split t2 (NwA.oi_args_any (.ref (s.heap.objs.size + 1)) [] []) ?_)
  rw [PySem.W.oi_run]
  exact wpAny_pure (And.intro rfl ⟨V.ref (s.heap.objs.size + 1), _, J, rfl, hq⟩)
theorem pe_makeO {C : Addr} (kp : PySem.W.keepIn X.K (.ref C) = true) (mk : PySem.W.makesIn X.K C = true) (ini : PySem.W.findIn X.K (.ref C) "__init__" = some (some (.builtin "object.__init__"))) (top : PySem.W.mroIn X.K C (.type "object") = some true) (hg : Gl X x) (hm : X.mg x = some (.ref C))
    (hdb : (x == ("__debug__" : Str)) = false) : PE X (.Call (.Name x p) [] [] pos) (fun σ H Q => ∀ x dx, H x = none → H dx = none → dx ≠ x → Q (.ref x) (upd (upd H dx (.own x)) x (.ins C dx []))) :=
  ⟨fun pins s σ H Q I h => wpAny_Call_Name_kw (ld_glob I hg hm (PySem.W.callWith_K0 I.kIn kp (run_makeO (s := s) mk ini top I h)) hdb)⟩
end
theorem lk_mem {α : Type} {x : Str} {v : α} : ∀ {l : List (Str × α)}, l.lookup x = some v → (x, v) ∈ l
  | (k, u) :: r, h => by
    rw [List.lookup_cons] at h
    cases hb : x == k with
    | true =>
      rw [hb] at h
      cases h
      have e : x = k := by simpa using hb
      rw [e]; exact List.mem_cons_self
    | false =>
      rw [hb] at h
      exact List.mem_cons_of_mem _ (lk_mem h)
theorem meth_mem {T : Tab} {c m key : Str} (h : T.meth c m = some key) : (c, m, key) ∈ T.mt := by
  unfold Tab.meth at h
  obtain ⟨p, h1, h2⟩ := Option.map_eq_some_iff.mp h
  have h3 := List.mem_of_find?_eq_some h1
  have h4 := List.find?_some h1
  obtain ⟨h5, h6⟩ := Bool.and_eq_true_iff.mp h4
  have e1 := of_decide_eq_true h5
  have e2 := of_decide_eq_true h6
  obtain ⟨a, b, d⟩ := p
  cases e1; cases e2; cases h2
  exact h3
theorem noat_mem {T : Tab} {c f : Str} (h : T.noat c f = true) : (c, f) ∈ T.na := by
  unfold Tab.noat at h
  obtain ⟨p, h1, h2⟩ := List.any_eq_true.mp h
  obtain ⟨h5, h6⟩ := Bool.and_eq_true_iff.mp h2
  have e1 := of_decide_eq_true h5
  have e2 := of_decide_eq_true h6
  obtain ⟨a, b⟩ := p
  cases e1; cases e2
  exact h1
/-! ### targets -/
theorem VR.parts {K : PySem.W.Frag} {cA : Str → Addr} {F : Hp} {β : List Addr} {S : Sto} {H : Hp} {v : Va} {x : V} {xs : List Va} (s : Sim K cA F β S H) (r : VR K F β v x) (h : partsOf S v = some xs) : ∃ a ys, x = .ref a ∧ VRs K F β xs ys ∧ (SqT K H a ys ∨ SqL K H a ys) := by
  cases v with
  | tup zs =>
    cases h
    obtain ⟨a, ys, rfl, t, q⟩ := r
    exact ⟨a, ys, rfl, q, .inl (SqT.mono s.sub t)⟩
  | lst zs =>
    cases h
    obtain ⟨a, ys, rfl, t, q⟩ := r
    exact ⟨a, ys, rfl, q, .inr (SqL.of (s.sub _ _ t))⟩
  | loc k =>
    simp only [partsOf] at h
    split at h
    · rename_i zs e
      cases h
      obtain ⟨a, ys, rfl, _, e2, q⟩ := loc_ok s e r
      exact ⟨a, ys, rfl, q, .inr (SqL.of e2)⟩
    · cases h
  | _ => cases h
section
variable (K : PySem.W.Frag) (cA : Str → Addr)
def liftG (is : List Nat) (w : Sto → Va → Env → Option Env) : TG := fun x σ H Q => ∃ F β Γ S v Γ', Sim K cA F β S H ∧ EnvR K F β Γ σ ∧ VR K F β v x ∧ w S v Γ = some Γ' ∧ ∀ σ', EnvR K F β Γ' σ' → σ'.length = σ.length → (∀ i, i ∉ is → σ'[i]? = σ[i]?) → Q σ' H
def liftGs (is : List Nat) (w : Sto → List Va → Env → Option Env) : TGs := fun x σ H Q => ∃ F β Γ S v Γ', Sim K cA F β S H ∧ EnvR K F β Γ σ ∧ VRs K F β v x ∧ w S v Γ = some Γ' ∧ ∀ σ', EnvR K F β Γ' σ' → σ'.length = σ.length → (∀ i, i ∉ is → σ'[i]? = σ[i]?) → Q σ' H
end
section
variable {c : Ctx} {cA : Str → Addr}
theorem asgn_cons {e : Expr} (h : noStar e = true) (es : List Expr) (env : PySem.Env) : assignEach (e :: es) env = (false, assign e env) :: assignEach es env := by
  cases e <;> first | rfl | cases h
theorem ckGs_len : ∀ (ts : Tgs) (es : List Expr) (env : PySem.Env), ckGs c ts es = true → (assignEach es env).length = es.length ∧ (assignEach es env).findIdx? (·.1) = none
  | .nil, es, env, h => by
    simp only [ckGs] at h
    split at h
    · exact ⟨rfl, rfl⟩
    · cases h
  | .cons t ts, es, env, h => by
    simp only [ckGs] at h
    split at h
    · obtain ⟨h, h3⟩ := ba h
      obtain ⟨h1, h2⟩ := ba h
      obtain ⟨i1, i2⟩ := ckGs_len ts _ env h3
      rw [asgn_cons h2]
      refine ⟨by simp [i1], ?_⟩
      rw [List.findIdx?_cons]
      simp [i2]
    · cases h
mutual
theorem sndG : ∀ (m : Tg) (X : Cx), X.N = c.N → X.N.Nodup → (∀ x, c.lc x = true → Loc X.env.scope x ∧ (X.fn x = true ∨ X.env.scope.names.lookup x = some .local)) → X.calm = true → ∀ (e : Expr), ckG c m e = true → PG X e (liftG X.K cA (tgS m) fun S v Γ => bindT S m v Γ)
  | .name i, X, hN, nd, hl, hc, e, h => by
    simp only [ckG] at h
    split at h
    · obtain ⟨h1, h2⟩ := ba h
      obtain ⟨l1, l2⟩ := hl _ h2
      refine (pg_name (i := i) nd (by rw [hN]; exact of_decide_eq_true h1) l1 l2).weak fun x σ H Q ⟨F, β, Γ, S, v, Γ', s, en, r, hb, q⟩ => ?_
      simp only [bindT] at hb
      cases hb
      refine q _ (en.set r) (List.length_set ..) fun j hj => ?_
      rw [List.getElem?_set_ne]
      intro e; subst e
      exact hj (by simp [tgS])
    · cases h
  | .tup ts, X, hN, nd, hl, hc, e, h => by
    simp only [ckG] at h
    split at h
    · rename_i es k p
      obtain ⟨z1, z2⟩ := ckGs_len ts _ X.env h
      have key := sndGs ts X hN nd hl hc _ h
      refine ((pg_tup (n := es.length) (k := k) (pos := p) hc key z1 z2).or (pg_lst (n := es.length) hc key z1 z2)).weak fun x σ H Q ⟨F, β, Γ, S, v, Γ', s, en, r, hb, q⟩ => ?_
      simp only [bindT] at hb
      split at hb
      · rename_i xs hp
        obtain ⟨a, ys, rfl, qq, hs⟩ := r.parts s hp
        have hlen : ys.length = es.length := by
          rw [← qq.len]; exact bindTs_len ts _ _ _ _ hb es h
        rcases hs with hs | hs
        · exact .inl ⟨a, ys, rfl, hs, hlen, F, β, Γ, S, xs, Γ', s, en, qq, hb, q⟩
        · exact .inr ⟨a, ys, rfl, hs, hlen, F, β, Γ, S, xs, Γ', s, en, qq, hb, q⟩
      · cases hb
    · cases h
theorem sndGs : ∀ (m : Tgs) (X : Cx), X.N = c.N → X.N.Nodup → (∀ x, c.lc x = true → Loc X.env.scope x ∧ (X.fn x = true ∨ X.env.scope.names.lookup x = some .local)) → X.calm = true → ∀ (e : List Expr), ckGs c m e = true → PGs X e (liftGs X.K cA (tgsS m) fun S v Γ => bindTs S m v Γ)
  | .nil, X, hN, nd, hl, hc, e, h => by
    simp only [ckGs] at h
    split at h
    · refine pgs_nil.weak fun x σ H Q ⟨F, β, Γ, S, v, Γ', s, en, r, hb, q⟩ => ?_
      cases v with
      | nil =>
        cases hb
        cases (show x = [] from r)
        exact ⟨rfl, q σ en rfl fun _ _ => rfl⟩
      | cons _ _ => cases hb
    · cases h
  | .cons t ts, X, hN, nd, hl, hc, e, h => by
    simp only [ckGs] at h
    split at h
    · obtain ⟨h, h3⟩ := ba h
      obtain ⟨h1, h2⟩ := ba h
      refine (pgs_cons (sndG t X hN nd hl hc _ h1) (sndGs ts X hN nd hl hc _ h3) (by rw [asgn_cons h2]; rfl)).weak fun x σ H Q ⟨F, β, Γ, S, v, Γ', s, en, r, hb, q⟩ => ?_
      cases v with
      | nil => cases hb
      | cons v vs =>
        obtain ⟨y, ys, rfl, r1, r2⟩ := r
        simp only [bindTs] at hb
        split at hb
        · rename_i Γ1 hb1
          refine ⟨y, ys, rfl, F, β, Γ, S, v, Γ1, s, en, r1, hb1, fun σ1 en1 l1 o1 => ⟨F, β, Γ1, S, vs, Γ', s, en1, r2, hb, fun σ2 en2 l2 o2 => ?_⟩⟩
          refine q σ2 en2 (l2.trans l1) fun i hi => ?_
          simp only [tgsS, List.mem_append, not_or] at hi
          rw [o2 i hi.2, o1 i hi.1]
        · cases hb
    · cases h
theorem bindTs_len : ∀ (ts : Tgs) (S : Sto) (xs : List Va) (Γ Γ' : Env), bindTs S ts xs Γ = some Γ' → ∀ es, ckGs c ts es = true → xs.length = es.length
  | .nil, S, [], Γ, Γ', _, es, h => by
    simp only [ckGs] at h
    split at h
    · rfl
    · cases h
  | .nil, S, _ :: _, Γ, Γ', hb, es, h => by cases hb
  | .cons t ts, S, [], Γ, Γ', hb, es, h => by cases hb
  | .cons t ts, S, x :: xs, Γ, Γ', hb, es, h => by
    simp only [ckGs] at h
    split at h
    · obtain ⟨h, h3⟩ := ba h
      simp only [bindTs] at hb
      split at hb
      · simp [bindTs_len ts S xs _ _ hb _ h3]
      · cases hb
    · cases h
end
end
theorem wipe_ext {σ σ2 : St} {vs is : List Nat} (h1 : ∀ i, i ∉ is → σ2[i]? = (wipe σ vs)[i]?) (h2 : σ2.length = (wipe σ vs).length) (h3 : ∀ i ∈ is, i ∈ vs) : wipe σ2 vs = wipe σ vs := by
  have key : ∀ (σ : St) (vs : List Nat) (i : Nat), i ∈ vs → (wipe σ vs)[i]? = if i < σ.length then some none else none := by
    intro σ vs
    induction vs with
    | nil => intro i h; cases h
    | cons v vs ih =>
      intro i h
      unfold wipe
      by_cases e : v = i
      · subst e
        by_cases hl : v < σ.length
        · rw [List.getElem?_set_self (by rw [wipe_length]; exact hl), if_pos hl]
        · rw [List.getElem?_eq_none (by rw [List.length_set, wipe_length]; omega), if_neg hl]
      · rw [List.getElem?_set_ne e]
        rcases List.mem_cons.mp h with z | z
        · exact absurd z.symm e
        · exact ih i z
  rw [wipe_length] at h2
  apply List.ext_getElem?
  intro i
  by_cases hi : i ∈ vs
  · rw [key σ2 vs i hi, key σ vs i hi, h2]
  · rw [wipe_out hi, h1 i fun z => hi (h3 i z)]
theorem wipe_wipe {σ σ2 : St} {own is : List Nat} (h1 : ∀ i, i ∉ is → σ2[i]? = (L2.wipe σ own)[i]?) (h2 : σ2.length = (L2.wipe σ own).length) (h3 : ∀ i ∈ is, i ∈ own) : L2.wipe σ2 own = L2.wipe σ own := wipe_ext h1 h2 h3
theorem EnvR.wipe {K : PySem.W.Frag} {F : Hp} {β : List Addr} {Γ : Env} {σ : St} (h : EnvR K F β Γ σ) : ∀ vs : List Nat, EnvR K F β (wipeA Γ vs) (L2.wipe σ vs)
  | [] => h
  | v :: vs => (EnvR.wipe h vs).wipe1
/-! ### walks -/
section
variable {K : PySem.W.Frag} {cA : Str → Addr} {F : Hp} {β : List Addr} {xs : List Va} {J : L2.It} {GH : Hp → Prop} {G : Sto → Prop}
theorem itok_w {n : Nat} (hn : n = xs.length) (h : ∀ F' β' S H, Ext F β F' β' → Sim K cA F' β' S H → G S → ∃ GH Y, Walk J n GH Y ∧ GH H ∧ ∀ i x H', i < n → Y i H x H' → ∃ F2 v, xs[i]? = some v ∧ Ext F' β' F2 β' ∧ Sim K cA F2 β' S H' ∧ VR K F2 β' v x) : ItOk K cA F β J xs G where
  go := fun F' β' S H i e s g hi => let ⟨_, _, w, q, _⟩ := h F' β' S H e s g; w.goes i H (by omega) q
  stop := fun F' β' S H e s g => let ⟨_, _, w, q, _⟩ := h F' β' S H e s g; by rw [← hn]; exact w.stops H q
  yld := fun F' β' S H i x H' e s g hi y => let ⟨_, _, w, q, z⟩ := h F' β' S H e s g; z i x H' (by omega) (w.yields i H x H' (by omega) q y)
theorem pair_yl {a b : Nat → Option V} {S : Sto} {H H' : Hp} {i : Nat} {x : V} (s : Sim K cA F β S H) (y : YPair a b i H x H') (hf : ∀ p q, a i = some p → b i = some q → ∃ v u, xs[i]? = some (.tup [v, u]) ∧ VR K F β v p ∧ VR K F β u q) :
    ∃ F2 v, xs[i]? = some v ∧ Ext F β F2 β ∧ Sim K cA F2 β S H' ∧ VR K F2 β v x := by
  obtain ⟨T, p, q, rfl, hT, rfl, h1, h2⟩ := y
  obtain ⟨v, u, h3, r1, r2⟩ := hf p q h1 h2
  obtain ⟨s2, sb⟩ := s.lay hT (.tup [p, q])
  have e2 : Ext F β (upd F T (.tup [p, q])) β := ⟨sb, List.prefix_refl _⟩
  exact ⟨_, .tup [v, u], h3, e2, s2, T, [p, q], rfl, SqT.of upd_same, p, [q], rfl, r1.ext e2, q, [], rfl, r2.ext e2, rfl⟩
theorem VRs.at {ys : List V} {i : Nat} (q : VRs K F β xs ys) {x : V} (h : ys[i]? = some x) : ∃ v, xs[i]? = some v ∧ VR K F β v x := by
  have hi : i < xs.length := by rw [q.len]; exact lt_of_get h
  obtain ⟨z, h1, h2⟩ := q.get (i := i) (v := xs[i]) (by simp [hi])
  rw [h] at h1
  cases h1
  exact ⟨xs[i], by simp [hi], h2⟩
/-- where a list stands, while G -/
def LAt (K : PySem.W.Frag) (cA : Str → Addr) (F : Hp) (β : List Addr) (a : Addr) (xs : List Va) (G : Sto → Prop) : Prop := ∀ F' β' S H, Ext F β F' β' → Sim K cA F' β' S H → G S → ∃ ys, SqL K H a ys ∧ VRs K F' β' xs ys
theorem itok_l {a : Addr} (h : LAt K cA F β a xs G) (ys : List V) (hy : VRs K F β xs ys) : ItOk K cA F β (Itl K a) xs G := by
  refine itok_w (n := ys.length) hy.len.symm fun F' β' S H e s g => ?_
  obtain ⟨zs, q, r⟩ := h F' β' S H e s g
  have hl : ys.length = zs.length := by rw [← hy.len, r.len]
  rw [hl]
  refine ⟨_, _, walk_list (xs := zs), q, fun i x H' hi ⟨e1, e2⟩ => ?_⟩
  subst e1
  obtain ⟨v, h1, h2⟩ := r.at e2
  exact ⟨F', v, h1, Ext.refl _ _, s, h2⟩
theorem itok_t {a : Addr} {ys : List V} (h : SqT K F a ys) (hy : VRs K F β xs ys) : ItOk K cA F β (Itt K a) xs fun _ => True := by
  refine itok_w (n := ys.length) hy.len.symm fun F' β' S H e s g => ?_
  refine ⟨_, _, walk_tup (xs := ys), SqT.mono s.sub (SqT.mono e.sub h), fun i x H' hi ⟨e1, e2⟩ => ?_⟩
  subst e1
  obtain ⟨v, h1, h2⟩ := (hy.ext e).at e2
  exact ⟨F', v, h1, Ext.refl _ _, s, h2⟩
theorem itok_s {z : Str} : ItOk K cA F β (Its z) (z.cps.toList.map fun c => Va.str ⟨#[c]⟩) fun _ => True := by
  refine itok_w (n := z.cps.size) (by simp) fun F' β' S H e s g => ?_
  refine ⟨_, _, walk_str, trivial, fun i x H' hi ⟨e1, c, e2, e3⟩ => ?_⟩
  subst e1 e3
  refine ⟨F', .str ⟨#[c]⟩, ?_, Ext.refl _ _, s, rfl⟩
  rw [List.getElem?_map, Array.getElem?_toList, e2]; rfl
theorem itok_r {lo : Int} {n : Nat} : ItOk K cA F β (Itr lo n) (rangeV lo n) fun _ => True := by
  refine itok_w (n := n) (by simp [rangeV]) fun F' β' S H e s g => ?_
  refine ⟨_, _, walk_range, trivial, fun i x H' hi ⟨e1, e2⟩ => ?_⟩
  subst e1 e2
  refine ⟨F', .int (lo + i), ?_, Ext.refl _ _, s, rfl⟩
  unfold rangeV
  rw [List.getElem?_map, List.getElem?_range hi]; rfl
theorem itok_d {lo : Int} {n : Nat} : ItOk K cA F β (Itc lo (-1) n) (rangeDV lo n) fun _ => True := by
  refine itok_w (n := n) (by simp [rangeDV]) fun F' β' S H e s g => ?_
  refine ⟨_, _, walk_rangeC, trivial, fun i x H' hi ⟨e1, e2⟩ => ?_⟩
  subst e1 e2
  refine ⟨F', .int (lo + (i : Nat) * (-1)), ?_, Ext.refl _ _, s, rfl⟩
  unfold rangeDV
  rw [List.getElem?_map, List.getElem?_range hi]
  show some (Va.int (lo - i)) = some (Va.int (lo + (i : Nat) * (-1)))
  rw [show lo - (i : Int) = lo + (i : Nat) * (-1) by omega]
theorem itok_k {a : Addr} {od : Obj} {kvs : List (Key × Va)} {ys : List (Key × V)} (h : F a = some (.frz od (.dK ys))) (hy : VRk K F β kvs ys) : ItOk K cA F β (Itk a od ys) (kvs.map fun kv => keyA kv.1) fun _ => True := by
  refine itok_w (n := ys.length) (by rw [List.length_map, hy.len]) fun F' β' S H e s g => ?_
  refine ⟨_, _, walk_keys (kvs := ys), s.sub _ _ (e.sub _ _ h), fun i x H' hi ⟨e1, k, v, e2, e3⟩ => ?_⟩
  subst e1
  obtain ⟨w, h1, h2⟩ := (keysV_ok (hy.ext e)).at (i := i) (x := kV k) (by rw [List.getElem?_map, e2]; rfl)
  exact ⟨F', w, h1, Ext.refl _ _, s, e3 ▸ h2⟩
theorem VRk.pair {K : PySem.W.Frag} {F : Hp} {β : List Addr} : ∀ {kvs : List (Key × Va)} {ys : List (Key × V)} {i : Nat} {kv : Key × V}, VRk K F β kvs ys → ys[i]? = some kv → ∃ v, kvs[i]? = some (kv.1, v) ∧ VR K F β v kv.2
  | [], _, i, kv, h, e => by cases (show _ = [] from h); simp at e
  | (k, v) :: r, _, 0, kv, ⟨y, t, e0, q, qs⟩, e => by subst e0; simp at e; subst e; exact ⟨v, rfl, q⟩
  | (k, v) :: r, _, i + 1, kv, ⟨y, t, e0, q, qs⟩, e => by
    subst e0
    obtain ⟨w, h1, h2⟩ := VRk.pair (i := i) qs (by simpa using e)
    exact ⟨w, by simpa using h1, h2⟩
theorem itok_i {a : Addr} {od : Obj} {kvs : List (Key × Va)} {ys : List (Key × V)} (h : F a = some (.frz od (.dK ys))) (hy : VRk K F β kvs ys) : ItOk K cA F β (Iti a od ys) (kvs.map fun kv => .tup [keyA kv.1, kv.2]) fun _ => True := by
  refine itok_w (n := ys.length) (by rw [List.length_map, hy.len]) fun F' β' S H e s g => ?_
  refine ⟨_, _, walk_items (kvs := ys), s.sub _ _ (e.sub _ _ h), fun i x H' hi y => pair_yl s y fun p q hp hq => ?_⟩
  obtain ⟨kv, hkv, rfl⟩ := Option.map_eq_some_iff.mp hp
  obtain ⟨kv', hkv', rfl⟩ := Option.map_eq_some_iff.mp hq
  rw [hkv] at hkv'
  cases hkv'
  obtain ⟨v, h1, h2⟩ := (hy.ext e).pair hkv
  refine ⟨keyA kv.1, v, by rw [List.getElem?_map, h1]; rfl, keyA_ok kv.1, h2⟩
theorem itok_v {a : Addr} (h : LAt K cA F β a xs G) (ys : List V) (hy : VRs K F β xs ys) : ItOk K cA F β (Itv K a ys.length) xs.reverse G := by
  refine itok_w (n := ys.length) (by rw [List.length_reverse, hy.len]) fun F' β' S H e s g => ?_
  obtain ⟨zs, q, r⟩ := h F' β' S H e s g
  have hl : ys.length = zs.length := by rw [← hy.len, r.len]
  rw [hl]
  refine ⟨_, _, walk_rev (xs := zs), q, fun i x H' hi ⟨e1, e2⟩ => ?_⟩
  subst e1
  obtain ⟨v, h1, h2⟩ := r.at e2
  refine ⟨F', v, ?_, Ext.refl _ _, s, h2⟩
  rw [List.getElem?_reverse (by rw [r.len]; exact hi), r.len]; exact h1
theorem enumV_get : ∀ (xs : List Va) (n i : Nat) (v : Va), xs[i]? = some v → (enumV n xs)[i]? = some (.tup [.int ((n + i : Nat) : Int), v])
  | [], _, _, _, h => by simp at h
  | x :: xs, n, 0, v, h => by
    have e : x = v := by simpa using h
    subst e
    rfl
  | x :: xs, n, i + 1, v, h => by
    have := enumV_get xs (n + 1) i v (by simpa using h)
    simp only [enumV, List.getElem?_cons_succ]
    rw [this]
    congr 5
    omega
theorem enumV_len : ∀ (xs : List Va) (n : Nat), (enumV n xs).length = xs.length
  | [], _ => rfl
  | x :: xs, n => by simp [enumV, enumV_len xs]
theorem itok_e {a : Addr} (h : LAt K cA F β a xs G) (ys : List V) (hy : VRs K F β xs ys) : ItOk K cA F β (Ite K a) (enumV 0 xs) G := by
  refine itok_w (n := ys.length) (by rw [enumV_len, hy.len]) fun F' β' S H e s g => ?_
  obtain ⟨zs, q, r⟩ := h F' β' S H e s g
  have hl : ys.length = zs.length := by rw [← hy.len, r.len]
  rw [hl]
  refine ⟨_, _, walk_enum (xs := zs), q, fun i x H' hi y => pair_yl s y fun p q hp hq => ?_⟩
  cases hp
  obtain ⟨v, h1, h2⟩ := r.at hq
  refine ⟨.int (i : Nat), v, ?_, rfl, h2⟩
  rw [enumV_get xs 0 i v h1, Nat.zero_add]
theorem zipV_get : ∀ (xs ys : List Va) (i : Nat) (v u : Va), xs[i]? = some v → ys[i]? = some u → (zipV xs ys)[i]? = some (.tup [v, u])
  | [], _, _, _, _, h, _ => by simp at h
  | _ :: _, [], _, _, _, _, h => by simp at h
  | x :: xs, y :: ys, 0, v, u, h, h' => by
    have e : x = v := by simpa using h
    have e' : y = u := by simpa using h'
    subst e e'
    rfl
  | x :: xs, y :: ys, i + 1, v, u, h, h' => by
    simp only [zipV, List.getElem?_cons_succ]
    exact zipV_get xs ys i v u (by simpa using h) (by simpa using h')
theorem zipV_len : ∀ (xs ys : List Va), (zipV xs ys).length = min xs.length ys.length
  | [], ys => by simp [zipV]
  | _ :: _, [] => by simp [zipV]
  | x :: xs, y :: ys => by simp [zipV, zipV_len xs ys]
theorem itok_z {a b : Addr} {us : List Va} {G' : Sto → Prop} (h : LAt K cA F β a xs G) (ys : List V) (hy : VRs K F β xs ys) (h' : LAt K cA F β b us G') (ys' : List V) (hy' : VRs K F β us ys') : ItOk K cA F β (Itz K a b) (zipV xs us) fun S => G S ∧ G' S := by
  refine itok_w (n := min ys.length ys'.length) (by rw [zipV_len, hy.len, hy'.len]) fun F' β' S H e s ⟨g, g'⟩ => ?_
  obtain ⟨zs, q, r⟩ := h F' β' S H e s g
  obtain ⟨ws, q', r'⟩ := h' F' β' S H e s g'
  have hl : ys.length = zs.length := by rw [← hy.len, r.len]
  have hl' : ys'.length = ws.length := by rw [← hy'.len, r'.len]
  rw [hl, hl']
  refine ⟨_, _, walk_zip (xs := zs) (ys := ws) rfl, ⟨q, q'⟩, fun i x H' hi y => pair_yl s y fun p q hp hq => ?_⟩
  obtain ⟨v, h1, h2⟩ := r.at hp
  obtain ⟨u, h3, h4⟩ := r'.at hq
  exact ⟨v, u, zipV_get _ _ _ _ _ h1 h3, h2, h4⟩
theorem ItOk.ext {F' : Hp} {β' : List Addr} (h : ItOk K cA F β J xs G) (e : Ext F β F' β') : ItOk K cA F' β' J xs G :=
  ⟨fun F2 β2 S H i e2 => h.go F2 β2 S H i (e.trans e2), fun F2 β2 S H e2 => h.stop F2 β2 S H (e.trans e2), fun F2 β2 S H i x H' e2 => h.yld F2 β2 S H i x H' (e.trans e2)⟩
theorem LAt.ext {F' : Hp} {β' : List Addr} {a : Addr} (h : LAt K cA F β a xs G) (e : Ext F β F' β') : LAt K cA F' β' a xs G := fun F2 β2 S H e2 => h F2 β2 S H (e.trans e2)
/-- what a list to be walked is -/
theorem wLst_ok {S : Sto} {H : Hp} {v : Va} {x : V} {P : PI_} (s : Sim K cA F β S H) (r : VR K F β v x) (h : wLst v S P) :
    ∃ a ys xs G, x = .ref a ∧ SqL K H a ys ∧ VRs K F β xs ys ∧ LAt K cA F β a xs G ∧ P xs G S := by
  unfold wLst at h
  split at h <;> first | exact h.elim | skip
  · obtain ⟨a, ys, rfl, t, q⟩ := r
    exact ⟨a, ys, _, _, rfl, SqL.of (s.sub _ _ t), q, fun F' β' S H e s _ => ⟨ys, SqL.of (s.sub _ _ (e.sub _ _ t)), q.ext e⟩, h⟩
  · obtain ⟨a, rfl, t⟩ := r
    exact ⟨a, _, _, _, rfl, SqL.mono s.sub t, VRs.ints.mpr rfl, fun F' β' S H e s _ => ⟨_, SqL.mono s.sub (SqL.mono e.sub t), VRs.ints.mpr rfl⟩, h⟩
  · obtain ⟨zs, h0, h⟩ := h
    obtain ⟨a, ys, rfl, t, e2, q⟩ := loc_ok s h0 r
    refine ⟨a, ys, zs, _, rfl, SqL.of e2, q, fun F' β' S' H' e s' g => ?_, h⟩
    obtain ⟨a', ys', e3, t', e4, q'⟩ := loc_ok s' g (x := .ref a) ⟨a, rfl, pre_get e.pre t⟩
    cases e3
    exact ⟨ys', SqL.of e4, q'⟩
theorem itok_et {a : Addr} {ys : List V} (h : SqT K F a ys) (hy : VRs K F β xs ys) : ItOk K cA F β (Itet K a) (enumV 0 xs) fun _ => True := by
  refine itok_w (n := ys.length) (by rw [enumV_len, hy.len]) fun F' β' S H e s g => ?_
  refine ⟨_, _, walk_enumT (xs := ys), SqT.mono s.sub (SqT.mono e.sub h), fun i x H' hi y => pair_yl s y fun p q hp hq => ?_⟩
  cases hp
  obtain ⟨v, h1, h2⟩ := (hy.ext e).at hq
  refine ⟨.int (i : Nat), v, ?_, rfl, h2⟩
  rw [enumV_get xs 0 i v h1, Nat.zero_add]
/-- what is walked by enumerate -/
theorem wEn_ok {S : Sto} {H : Hp} {v : Va} {x : V} {P : PI_} (s : Sim K cA F β S H) (r : VR K F β v x) (h : wEn v S P) :
    ∃ a ys xs G, x = .ref a ∧ ((SqL K H a ys ∧ ItOk K cA F β (Ite K a) (enumV 0 xs) G) ∨ (SqT K H a ys ∧ ItOk K cA F β (Itet K a) (enumV 0 xs) G)) ∧ P xs G S := by
  have key : wLst v S P → ∃ a ys xs G, x = .ref a ∧ ((SqL K H a ys ∧ ItOk K cA F β (Ite K a) (enumV 0 xs) G) ∨ (SqT K H a ys ∧ ItOk K cA F β (Itet K a) (enumV 0 xs) G)) ∧ P xs G S := fun h => by
    obtain ⟨a, ys, xs, G, e, q, r, l, p⟩ := wLst_ok s r h
    exact ⟨a, ys, xs, G, e, .inl ⟨q, itok_e l ys r⟩, p⟩
  cases v with
  | tup xs =>
    obtain ⟨a, ys, rfl, t, q⟩ := r
    exact ⟨a, ys, xs, _, rfl, .inr ⟨SqT.mono s.sub t, itok_et t q⟩, h⟩
  | _ => exact key h
/-- what is walked by itself -/
theorem wSeq_ok {S : Sto} {H : Hp} {v : Va} {x : V} {P : PI_} (s : Sim K cA F β S H) (r : VR K F β v x) (h : wSeq v S P) :
    ∃ xs G, ((∃ a ys, x = .ref a ∧ SqL K H a ys ∧ ItOk K cA F β (Itl K a) xs G) ∨ (∃ a ys, x = .ref a ∧ SqT K H a ys ∧ ItOk K cA F β (Itt K a) xs G) ∨ ∃ z, x = .str z ∧ ItOk K cA F β (Its z) xs G) ∧ P xs G S := by
  have key : wLst v S P → ∃ xs G, ((∃ a ys, x = .ref a ∧ SqL K H a ys ∧ ItOk K cA F β (Itl K a) xs G) ∨ (∃ a ys, x = .ref a ∧ SqT K H a ys ∧ ItOk K cA F β (Itt K a) xs G) ∨ ∃ z, x = .str z ∧ ItOk K cA F β (Its z) xs G) ∧ P xs G S := fun h => by
    obtain ⟨a, ys, xs, G, e, q, r, l, p⟩ := wLst_ok s r h
    exact ⟨xs, G, .inl ⟨a, ys, e, q, itok_l l ys r⟩, p⟩
  cases v with
  | lst xs => exact key h
  | scr ns => exact key h
  | loc k => exact key h
  | tup xs =>
    obtain ⟨a, ys, rfl, t, q⟩ := r
    exact ⟨xs, _, .inr (.inl ⟨a, ys, rfl, SqT.mono s.sub t, itok_t t q⟩), h⟩
  | str z =>
    cases r
    exact ⟨_, _, .inr (.inr ⟨z, rfl, itok_s⟩), h⟩
  | _ => exact h.elim
end
theorem pi_seqA {X : Cx} {tg e : Expr} {te : TE} (he : PE X e te) : PI X tg e (fun σ H R => te σ H fun x H1 => (∃ a ys, x = .ref a ∧ SqL X.K H1 a ys ∧ R (Itl X.K a) H1) ∨ (∃ a ys, x = .ref a ∧ SqT X.K H1 a ys ∧ R (Itt X.K a) H1) ∨ ∃ z, x = .str z ∧ R (Its z) H1) := by
  refine ⟨fun pins s σ H R I h => thn (he.run pins s σ H _ I h) fun v s1 ⟨x, H1, I1, r1, q1⟩ => ?_⟩
  rcases q1 with ⟨a, ys, rfl, hq, q⟩ | ⟨a, ys, rfl, hq, q⟩ | ⟨z, rfl, q⟩
  · cases r1
    obtain ⟨its, rv, p, hz⟩ := I1.list hq
    exact wpAny_pyIter_list p.isList (pi_one (tk := s1.toks) I1 _ (turn_list a _) ⟨_, Heap.get?_push_size _ rfl, rfl, rfl⟩ q)
  · cases r1
    obtain ⟨its, rv, p, hz⟩ := I1.tuple hq
    exact wpAny_pyIter_tuple (show s1.heap.IsTuple a its.toArray from p) (pi_one (tk := s1.toks) I1 _ (turn_tuple a _) ⟨_, Heap.get?_push_size _ rfl, rfl, rfl⟩ q)
  · obtain ⟨t, rfl⟩ := r1
    cases hz : z.cps.all (· < 128)
    · exact wpAny_pyIter_wide hz (pi_one (tk := s1.toks) I1 _ (turn_str _ z t "str_iterator" (.inr rfl)) ⟨_, Heap.get?_push_size _ rfl, rfl, rfl⟩ q)
    · exact wpAny_pyIter_ascii hz (pi_one (tk := s1.toks) I1 _ (turn_str _ z t "str_ascii_iterator" (.inl rfl)) ⟨_, Heap.get?_push_size _ rfl, rfl, rfl⟩ q)
theorem any_star {c : Ctx} : ∀ (ms : Exs) (es : List Expr) (pos : Pos) (env : PySem.Env), ckL c ms es = true → (backTo pos (starEach es env)).any (·.1) = false
  | .nil, es, pos, env, h => by
    simp only [ckL] at h
    split at h
    · rfl
    · cases h
  | .cons m ms, es, pos, env, h => by
    simp only [ckL] at h
    split at h
    · obtain ⟨h, h3⟩ := ba h
      obtain ⟨h1, h2⟩ := ba h
      rw [star_cons h2]
      have := any_star ms _ pos env h3
      simpa [backTo] using this
    · cases h

theorem ckL_first {c : Ctx} (es : Exs) (e1 : Expr) (es' : List Expr) (pos : Pos) (env : PySem.Env) (h3 : ckL c es (e1 :: es') = true) : starEach (e1 :: es') env = (false, eval e1 env) :: starEach es' env ∧ (backTo pos (starEach es' env)).any (·.1) = false := by
  cases es with
  | nil => simp only [ckL] at h3; cases h3
  | cons m ms =>
    simp only [ckL] at h3
    obtain ⟨h3, h5⟩ := ba h3
    exact ⟨star_cons (ba h3).2 _ _, any_star ms _ _ _ h5⟩
theorem ckI_fold {c : Ctx} {m : It} {tg e : Expr} (h : ckI c m tg e = true) (env : PySem.Env) : ∀ x, foldedSetIterable e env x = pure x := by
  have key : noSet e = true → ∀ x, foldedSetIterable e env x = pure x := fun h x => by
    cases e <;> first | rfl | cases h
  cases m
  case seq m =>
    simp only [ckI] at h
    exact key (ba h).2
  case keys m =>
    simp only [ckI] at h
    exact key (ba h).2
  all_goals
    simp only [ckI] at h
    split at h
    · intro x; rfl
    · cases h
theorem ownA_ix (N : List Str) (own : List Nat) : (ownA N own).map (·.2) = own := by
  unfold ownA
  rw [List.map_map]
  exact List.map_id' own
theorem lam1_ok {z : Str} {params : Arguments} {sc : Scope} (h : lam1B z params sc = true) : (∃ ap, params = ⟨[], [⟨z, none, ap⟩], none, [], [], none, []⟩) ∧ LamS1 z sc ∧ (z == ("__debug__" : Str)) = false := by
  unfold lam1B at h
  obtain ⟨h, h6⟩ := ba h
  obtain ⟨h, h5⟩ := ba h
  obtain ⟨h, h4⟩ := ba h
  obtain ⟨h, h3⟩ := ba h
  obtain ⟨h1, h2⟩ := ba h
  have h5 := of_decide_eq_true h5
  refine ⟨?_, ⟨of_decide_eq_true h2, by simpa using h3, by simpa using h4, fun y hy => ?_, ?_⟩, by simpa using h6⟩
  · split at h1
    · have e := of_decide_eq_true h1
      subst e
      exact ⟨_, rfl⟩
    · cases h1
  · rw [h5] at hy
    rw [List.mem_singleton.mp hy]
  · rw [h5]
    simp [List.lookup]
section
variable {K : PySem.W.Frag} {cA : Str → Addr} {F : Hp} {β : List Addr} {S : Sto} {H : Hp}
theorem Sim.tabS (s : Sim K cA F β S H) {i : Nat} {q : Str} (h : S[i]? = some (.tab q)) : LamX.TabS H (cA q) q := by
  obtain ⟨a, _, _, e, ps, e1, t, r⟩ := s.at h
  subst e
  exact ⟨ps, e1, t, fun p cv z => let ⟨c, e2, e3⟩ := r p cv z; ⟨c, e2, s.sub _ _ e3⟩⟩
theorem Sim.tabUp (s : Sim K cA F β S H) {i : Nat} {q : Str} (h : S[i]? = some (.tab q)) {H1 : Hp} (t : TabUp (cA q) q H H1) : ∃ F1, Ext F β F1 β ∧ Sim K cA F1 β S H1 := by
  rcases t with rfl | ⟨ps, more, c', hP, nc, rfl, ht, ha⟩
  · exact ⟨F, Ext.refl _ _, s⟩
  · obtain ⟨a, ea, fa, e, ps', e1, _, r⟩ := s.at h
    subst e
    rw [hP] at e1
    cases e1
    have ne : cA q ≠ c' := ne_of_none hP nc
    obtain ⟨s1, sub⟩ := s.lay nc (LamX.CodeO c' q)
    have s2 := s1.put (o := .tab q) (u := .tbl (ps ++ more)) (lt_of_get h) ea ((upd_ne ne).trans fa) ⟨rfl, _, upd_same, ht, fun p cv z => ?_⟩
    · refine ⟨_, ⟨sub, List.prefix_refl _⟩, ?_⟩
      have eS : S.set i (.tab q) = S := by
        apply List.ext_getElem?
        intro j
        by_cases hj : i = j
        · subst hj
          rw [List.getElem?_set_self (lt_of_get h), h]
        · rw [List.getElem?_set_ne hj]
      have eH : upd (upd H c' (LamX.CodeO c' q)) (cA q) (.tbl (ps ++ more)) = upd (upd H (cA q) (.tbl (ps ++ more))) c' (LamX.CodeO c' q) := by
        funext b
        unfold upd
        by_cases h1 : b = cA q
        · rw [if_pos h1, if_neg (fun z => ne (h1 ▸ z)), if_pos h1]
        · rw [if_neg h1]
          by_cases h2 : b = c'
          · rw [if_pos h2, if_pos h2]
          · rw [if_neg h2, if_neg h2, if_neg h1]
      rw [eS, eH] at s2
      exact s2
    · rcases ha p cv z with z | z
      · obtain ⟨c, e2, e3⟩ := r p cv z
        exact ⟨c, e2, sub _ _ e3⟩
      · exact ⟨c', z, upd_same⟩
theorem trip_of : ∀ {bs : List (Va × PyData)} {ys : List V}, VRs K F β (bs.map (·.1)) ys → ∃ cs : List ((Va × V) × PyData), bs = cs.map (fun c => (c.1.1, c.2)) ∧ ys = cs.map (·.1.2) ∧ ∀ c ∈ cs, VR K F β c.1.1 c.1.2
  | [], _, h => ⟨[], rfl, h, fun _ z => by cases z⟩
  | b :: bs, _, ⟨y, r, e, q, qs⟩ => by
    obtain ⟨cs, e1, e2, h⟩ := trip_of qs
    exact ⟨((b.1, y), b.2) :: cs, by rw [e1]; rfl, by rw [e, e2]; rfl, fun c hc => by
      rcases List.mem_cons.mp hc with rfl | hc
      · exact q
      · exact h c hc⟩
theorem trip_to : ∀ {cs : List ((Va × V) × PyData)}, (∀ c ∈ cs, VR K F β c.1.1 c.1.2) → VRs K F β (cs.map ((·.1) ∘ fun c => (c.1.1, c.2))) (cs.map ((·.1) ∘ fun c => (c.1.2, c.2)))
  | [], _ => rfl
  | c :: cs, h => ⟨c.1.2, _, rfl, h c (List.mem_cons_self ..), trip_to fun c hc => h c (List.mem_cons_of_mem _ hc)⟩
theorem Sim.tabUpC (s : Sim K cA F β S H) {i : Nat} {q : Str} (h : S[i]? = some (.tab q)) {c' : Addr} {H1 : Hp} (t : TabUpC (cA q) q c' H H1) : ∃ F1, Ext F β F1 β ∧ Sim K cA F1 β S H1 ∧ F1 c' = some (LamX.CodeO c' q) := by
  rcases t with ⟨rfl, ps, pos, hP, hc⟩ | ⟨ps, more, hP, nc, rfl, ht, ha⟩
  · obtain ⟨a, ea, fa, e, ps', e1, _, r⟩ := s.at h
    subst e
    rw [hP] at e1
    cases e1
    obtain ⟨c2, e2, e3⟩ := r pos _ hc
    cases e2
    exact ⟨F, Ext.refl _ _, s, e3⟩
  · obtain ⟨a, ea, fa, e, ps', e1, _, r⟩ := s.at h
    subst e
    rw [hP] at e1
    cases e1
    have ne : cA q ≠ c' := ne_of_none hP nc
    obtain ⟨s1, sub⟩ := s.lay nc (LamX.CodeO c' q)
    have s2 := s1.put (o := .tab q) (u := .tbl (ps ++ more)) (lt_of_get h) ea ((upd_ne ne).trans fa) ⟨rfl, _, upd_same, ht, fun p cv z => ?_⟩
    · refine ⟨_, ⟨sub, List.prefix_refl _⟩, ?_, upd_same⟩
      have eS : S.set i (.tab q) = S := by
        apply List.ext_getElem?
        intro j
        by_cases hj : i = j
        · subst hj
          rw [List.getElem?_set_self (lt_of_get h), h]
        · rw [List.getElem?_set_ne hj]
      have eH : upd (upd H c' (LamX.CodeO c' q)) (cA q) (.tbl (ps ++ more)) = upd (upd H (cA q) (.tbl (ps ++ more))) c' (LamX.CodeO c' q) := by
        funext b
        unfold upd
        by_cases h1 : b = cA q
        · rw [if_pos h1, if_neg (fun z => ne (h1 ▸ z)), if_pos h1]
        · rw [if_neg h1]
          by_cases h2 : b = c'
          · rw [if_pos h2, if_pos h2]
          · rw [if_neg h2, if_neg h2, if_neg h1]
      rw [eS, eH] at s2
      exact s2
    · rcases ha p cv z with z | z
      · obtain ⟨c, e2, e3⟩ := r p cv z
        exact ⟨c, e2, sub _ _ e3⟩
      · exact ⟨c', z, upd_same⟩
end
theorem Gd.u65 {c : Ctx} {cA : Str → Addr} {T : Tab} {k : Nat} {cur : Option (Addr × Str)} {Wx : WX} {X : Cx} (g : Gd c cA T k cur Wx X) : X.A.units + 65 < cLine := by
  exact g.un
theorem xk_mem {T : Tab} {k : Nat} {cur : Option (Addr × Str)} {c x : Str} {b : Bool} (h : (orcE T k cur).xk c x = some b) : (c, x, b) ∈ T.xk := by
  have h : T.xkf c x = some b := h
  unfold Tab.xkf at h
  cases hf : T.xk.find? fun p => decide (p.1 = c) && decide (p.2.1 = x) with
  | none => rw [hf] at h; cases h
  | some p =>
    rw [hf] at h
    cases h
    have h1 := List.find?_some hf
    obtain ⟨h2, h3⟩ := ba h1
    have h2 := of_decide_eq_true h2
    have h3 := of_decide_eq_true h3
    subst h2 h3
    exact List.mem_of_find?_eq_some hf
/-- isinstance(e, c), e the exception that is handled -/
def rIsX (K : PySem.W.Frag) (cA : Str → Addr) (cur : Option (Addr × Str)) : List V → Hp → VK → Prop := fun xs H Q => ∃ ad c', cur = some (ad, c') ∧ ∃ (c : V) (cv : Value) (b : Bool), xs = [.ref ad, c] ∧ (∀ u, RelV c u → u = cv) ∧ PySem.W.kitOne K (.ref (cA c')) cv = some b ∧ ExcC K (cA c') ∧ Q (.bl b) H
def rIsXT (K : PySem.W.Frag) (cA : Str → Addr) (cur : Option (Addr × Str)) : List V → Hp → VK → Prop := fun xs H Q => ∃ ad c', cur = some (ad, c') ∧ ∃ (tp : Addr) (cs : List V) (us : List Value) (b : Bool), xs = [.ref ad, .ref tp] ∧ H tp = some (.tup cs) ∧ Paired ClsV cs us ∧ PySem.W.kitAny K (.ref (cA c')) us = some b ∧ ExcC K (cA c') ∧ Q (.bl b) H
section
variable {X : Cx} {cA : Str → Addr} {cur : Option (Addr × Str)}
theorem exc_inst {D a : Addr} {oe : Obj} {h : Heap} (hget : h.get? a = some oe) (hz : Zc (.ref D) none oe) (hf : ∃ vs, oe.data = .fields vs) : PySem.W.InstAt h a oe D none := by
  obtain ⟨vs, hv⟩ := hf
  obtain ⟨oc, od, oda, osl⟩ := oe
  obtain ⟨h1, h2⟩ := hz
  dsimp only at h1 h2 hv
  subst h1 h2 hv
  exact ⟨hget, rfl, rfl, trivial⟩
theorem call_isX (hcur : ∀ a x, cur = some (a, x) → ∃ oe, (a, oe) ∈ X.pn ∧ Zc (.ref (cA x)) none oe ∧ ∃ vs, oe.data = .fields vs) : CallR X (.builtin "isinstance") (rIsX X.K cA cur) := by
  intro pins s σ H xs us Q I r h
  obtain ⟨ad, c', hc, c, cv, b, rfl, hcv, e, C, q⟩ := h
  obtain ⟨oe, hp, hz, hf⟩ := hcur _ _ hc
  obtain ⟨u1, u2, rfl, r1, r2⟩ := vals2 r
  cases (show u1 = Value.ref ad from r1)
  cases hcv _ r2
  obtain ⟨hget, _⟩ := I.pin (ad, oe) (List.mem_append.mpr (.inl hp))
  exact PySem.W.kia_one (PySem.W.handS_kitx_exc C.hg C.hk C.hs C.hd C.ha C.hn C.ht C.hm) I.kIn (exc_inst hget hz hf) e (fun z => nomatch z) fun tk => ⟨.bl b, H, I.kept (t' := tk) fun _ _ z => z, rfl, q⟩
theorem call_isXT (hcur : ∀ a x, cur = some (a, x) → ∃ oe, (a, oe) ∈ X.pn ∧ Zc (.ref (cA x)) none oe ∧ ∃ vs, oe.data = .fields vs) : CallR X (.builtin "isinstance") (rIsXT X.K cA cur) := by
  intro pins s σ H xs us Q I r h
  obtain ⟨ad, c', hc, tp, cs, ws, b, rfl, hT, k, e, C, q⟩ := h
  obtain ⟨oe, hp, hz, hf⟩ := hcur _ _ hc
  obtain ⟨u1, u2, rfl, r1, r2⟩ := vals2 r
  cases (show u1 = Value.ref ad from r1)
  cases (show u2 = Value.ref tp from r2)
  obtain ⟨hget, _⟩ := I.pin (ad, oe) (List.mem_append.mpr (.inl hp))
  obtain ⟨_, its, rv, o, h1, h2, n, h3⟩ := (show ObjOk X.prog X.w H s.heap tp (.tup cs) from I.hok tp _ hT)
  have e3 := ClsV.all k rv
  subst e3
  obtain ⟨oc, od, dt, sl⟩ := o
  simp only at h2 h3
  subst h2 h3
  exact PySem.W.kia_tup (PySem.W.handS_kitx_exc C.hg C.hk C.hs C.hd C.ha C.hn C.ht C.hm) I.kIn (exc_inst hget hz hf) h1 e (fun z => nomatch z) fun tk => ⟨.bl b, H, I.kept (t' := tk) fun _ _ z => z, rfl, q⟩
/-- a class's name -/
def ClsAt (X : Cx) (z : Str) (cv : Value) : Prop := X.mg z = some cv ∨ (X.mg z = none ∧ bootBuiltins z = some cv ∧ z ≠ "__name__")
theorem _root_.L2.ClsV.rel {v : V} {cv : Value} (h : ClsV v cv) : RelV v cv := by
  cases h <;> rfl
theorem cls_name {z : Str} (hg : Gl X z) (hd : (z == ("__debug__" : Str)) = false) (p : Pos) : PE X (.Name z p) (fun σ H Q => ∃ v cv, ClsV v cv ∧ ClsAt X z cv ∧ Q v H) :=
  ⟨fun pins s σ H Q I ⟨v, cv, hv, hm, q⟩ => by
    rcases hm with hm | ⟨hm, hb, hn⟩
    · exact ld_glob I hg hm ⟨v, H, I, hv.rel, q⟩ hd
    · exact ld_blt I hg hm hb ⟨v, H, I, hv.rel, q⟩ hn hd⟩
def clsL (X : Cx) : List Str → List V → List Value → Prop
  | [], vs, us => vs = [] ∧ us = []
  | z :: zs, vs, us => ∃ v cv vs' us', vs = v :: vs' ∧ us = cv :: us' ∧ ClsV v cv ∧ ClsAt X z cv ∧ clsL X zs vs' us'
theorem clsL_len : ∀ {zs : List Str} {vs : List V} {us : List Value}, clsL X zs vs us → vs.length = zs.length
  | [], _, _, ⟨h, _⟩ => by rw [h]; rfl
  | z :: zs, _, _, ⟨v, cv, vs', us', e1, e2, _, _, r⟩ => by rw [e1, List.length_cons, List.length_cons, clsL_len r]
theorem cls_names {c : Ctx} (hg : ∀ x, glB c.sc x = true → Gl X x) : ∀ (zs : List Str) (es : List Expr), ckNm c zs es = true → PA X es (fun σ H Q => ∃ vs us, clsL X zs vs us ∧ Q vs H)
  | [], es, h => by
    simp only [ckNm] at h
    split at h
    · exact pa_nil.weak fun σ H Q ⟨vs, us, ⟨e, _⟩, q⟩ => by rw [e] at q; exact q
    · cases h
  | z :: zs, es, h => by
    simp only [ckNm] at h
    split at h
    · rename_i y p r
      obtain ⟨h, h3⟩ := ba h
      obtain ⟨h1, h2⟩ := ba h
      have hx := of_decide_eq_true h1
      subst hx
      refine (pa_cons (cls_name (hg _ h2) (by have := (ba (ba h2).1).2; simpa using this) p) (cls_names hg zs r h3) rfl).weak fun σ H Q ⟨vs, us, ⟨v, cv, vs', us', e1, e2, k1, k2, k3⟩, q⟩ => ?_
      subst e1
      exact ⟨v, cv, k1, k2, vs', us', k3, q⟩
    · cases h
end
theorem xks_ok {X : Cx} {cA : Str → Addr} {T : Tab} {k : Nat} {cur : Option (Addr × Str)} {c' : Str} (g : ∀ p ∈ T.xk, XkOk X.K X.mg cA p) : ∀ {zs : List Str} {b : Bool}, xkAny (orcE T k cur) c' zs = some b → ∃ vs us, clsL X zs vs us ∧ Paired ClsV vs us ∧ PySem.W.kitAny X.K (.ref (cA c')) us = some b ∧ (zs ≠ [] → ExcC X.K (cA c'))
  | [], b, h => by
    cases h
    exact ⟨[], [], ⟨rfl, rfl⟩, .nil, kitAny_nil, fun z => absurd rfl z⟩
  | z :: zs, b, h => by
    simp only [xkAny] at h
    split at h
    · rename_i b1 b2 h1 h2
      cases h
      obtain ⟨vs, us, k1, k2, k3, _⟩ := xks_ok g h2
      obtain ⟨w, cv, j1, j2, j3, j4, j5⟩ := g _ (xk_mem h1)
      refine ⟨w :: vs, cv :: us, ⟨w, cv, vs, us, rfl, rfl, j1, j2, k1⟩, .cons j1 k2, ?_, fun _ => j3⟩
      refine kitAny_cons j4 (fun e => ?_) (fun e => ?_)
      · rw [show b1 = false from e, Bool.false_or]; exact k3
      · rw [show b1 = true from e, Bool.true_or]
    · cases h
theorem isa_mem {T : Tab} {c x : Str} {b : Bool} (h : T.isa c x = some b) : (c, x, b) ∈ T.ia := by
  unfold Tab.isa at h
  cases hf : T.ia.find? fun p => decide (p.1 = c) && decide (p.2.1 = x) with
  | none => rw [hf] at h; cases h
  | some p =>
    rw [hf] at h
    have h1 := List.find?_some hf
    have h2 := List.mem_of_find?_eq_some hf
    obtain ⟨p1, p2, p3⟩ := p
    simp only [Bool.and_eq_true, decide_eq_true_eq] at h1
    obtain ⟨rfl, rfl⟩ := h1
    cases h
    exact h2
theorem clsIs_ok {C : Orc} {x : Str} {ob : Ob} {b : Bool} (h : clsIs C x ob = some b) : ∃ c fs, ob = .ins c fs ∧ C.isa c x = some b := by
  cases ob with
  | ins c fs => exact ⟨c, fs, rfl, h⟩
  | _ => cases h
theorem fldO_ok {C : Orc} {f : Str} {ob : Ob} {u : Va} (h : fldO C f ob = some u) : ∃ c fs, ob = .ins c fs ∧ C.noat c f = true ∧ fs.lookup f = some u := by
  cases ob with
  | ins c fs =>
    simp only [fldO] at h
    split at h
    · rename_i hn; exact ⟨c, fs, rfl, hn, h⟩
    · cases h
  | _ => cases h
theorem mkey_ok {C : Orc} {m : Str} {ob : Ob} {u : Str} (h : mkey C m ob = some u) : ∃ c fs, ob = .ins c fs ∧ fs.lookup m = none ∧ C.meth c m = some u := by
  cases ob with
  | ins c fs =>
    simp only [mkey] at h
    split at h
    · rename_i hn; exact ⟨c, fs, rfl, hn, h⟩
    · cases h
  | _ => cases h
theorem ckP_len {c : Ctx} : ∀ (m : Exs) (ks : List (Option Expr)) (vs : List Expr), ckP c m ks vs = true → ks.all (·.isSome) = true ∧ ks.length = vs.length
  | .nil, [], [], _ => ⟨rfl, rfl⟩
  | .nil, [], _ :: _, h => by simp [ckP] at h
  | .nil, _ :: _, _, h => by simp [ckP] at h
  | .cons m1 .nil, ks, vs, h => by simp [ckP] at h
  | .cons m1 (.cons m2 r), some k' :: ks, v' :: vs, h => by
    have h := show (ckE c m1 k' && ckE c m2 v' && ckP c r ks vs) = true from h
    obtain ⟨i1, i2⟩ := ckP_len r ks vs (ba h).2
    exact ⟨by rw [List.all_cons, i1]; rfl, by rw [List.length_cons, List.length_cons, i2]⟩
  | .cons m1 (.cons m2 r), [], _, h => by simp [ckP] at h
  | .cons m1 (.cons m2 r), none :: _, _, h => by simp [ckP] at h
  | .cons m1 (.cons m2 r), some _ :: _, [], h => by simp [ckP] at h
theorem m1_ok {X : Cx} {o e : Expr} {m : Str} {apos pos : Pos} (hb : plainB o = true) (hs : noStar e = true) (hl : (apos.endLine == pos.line) = true) : M1 X o m apos e pos where
  base := plainB_ok hb _ _ _
  few := few_ok (by rw [star_cons hs]; rfl) (by show 1 < 28; decide)
  line := hl
  trees := by rw [star_cons hs]; rfl
theorem m2_ok {X : Cx} {o e f : Expr} {m : Str} {apos pos : Pos} (hb : plainB o = true) (hs : noStar e = true) (hs2 : noStar f = true) (hl : (apos.endLine == pos.line) = true) : M2 X o m apos e f pos where
  base := plainB_ok hb _ _ _
  few := few_ok (by rw [star_cons hs, star_cons hs2]; rfl) (by show 2 < 28; decide)
  line := hl
  trees := by rw [star_cons hs, star_cons hs2]; rfl
/-- a written dict asked -/
theorem pe_kget2 {X : Cx} {x : Str} {e f : Expr} {ty tx : TE} {p apos cpos : Pos} (hg : Gl X x) (hdb : (x == ("__debug__" : Str)) = false) (he : PE X e ty) (hf : PE X f tx) (m : M2 X (.Name x p) "get" apos e f cpos) :
    PE X (.Call (.Attribute (.Name x p) "get" apos) [e, f] [] cpos) (fun σ H Q => ∃ A es n, X.mg x = some (.ref A) ∧ KDict X.K X.w A es n ∧ ty σ H fun y H1 => tx σ H1 fun z H2 => ∃ s r, y = .str s ∧ PySem.W.nsIn X.K A s = some r ∧ ((r = none ∧ Q z H2) ∨ ∃ u v, r = some u ∧ RelV v u ∧ Q v H2)) := by
  refine ⟨fun pins s σ H Q I ⟨A, es, n, hm, D, h⟩ => ?_⟩
  refine wpAny_Call_method m.base m.few m.line PySem.F.plainAttrs_dict PySem.F.slot_dict_get PySem.F.type_dict_get (ld_glob I hg hm ?_ hdb)
  refine ⟨kd_type D I, fun b z => by cases z; exact ⟨_, I.kIn _ _ D.at_, rfl⟩, ?_⟩
  rw [m.trees]
  have fin : ∀ {s' : Shared} {H' : Hp} {k' z : V} {kv zv : Value}, Inv X pins σ H' s' → RelV k' kv → RelV z zv → (∃ w r, k' = .str w ∧ PySem.W.nsIn X.K A w = some r ∧ ((r = none ∧ Q z H') ∨ ∃ u v, r = some u ∧ RelV v u ∧ Q v H')) → wpAny (model X.prog X.w) X.A (PySem.call (.builtin "dict.get") [.ref A, kv, zv]) (EP X pins σ Q) X.xe s' := fun {s' H' k' z kv zv} I' rk rz ⟨w, r, ek, hr, hq⟩ => by
    subst ek
    obtain ⟨t, rfl⟩ := rk
    have M := PySem.W.mapOf_K (prog := X.prog) (w := X.w) I'.kIn D.at_ D.lit
    have hfind := PySem.W.find_K D.at_ hr
    refine call_meetsIn PySem.F.slot_dict_get M.typeIs PySem.F.entry_dict_get (PySem.F.args_dict_get_3 _ _ _) (meets_dict_get_default (strKind X.prog X.w) A (PySem.strKind_is X.prog X.w w t) D.low zv) ⟨_, M, ?_⟩
    rw [hfind]
    rcases hq with ⟨e1, q⟩ | ⟨u, v, e1, rv, q⟩
    · subst e1
      exact ⟨z, H', I'.tok _, rz, q⟩
    · subst e1
      exact ⟨v, H', I'.tok _, rv, q⟩
  exact Calls.callWith_builtin rfl (Calls.evalArgs_plain (Calls.spliced_cons (thn (he.run pins s σ H _ I h) fun k1 s1 ⟨_, _, I1, r1, h1⟩ =>
    Calls.spliced_cons (thn (hf.run pins s1 σ _ _ I1 h1) fun k2 s2 ⟨_, _, I2, r2, w, r, ek, hr, hq⟩ => Calls.spliced_nil (fin I2 (by subst ek; exact r1) r2 ⟨w, r, rfl, hr, hq⟩)))))
/-- a comprehension's turns -/
theorem comp_ok {K : PySem.W.Frag} {cA : Str → Addr} {C : Orc} (hC : OrcMono C) {F F1 : Hp} {β β1 : List Addr} {S1 : Sto} {H1 : Hp} {Γ : Env} {σ : St} {J : L2.It} {xs : List Va} {G : Sto → Prop} {Q : VK} {own : List Nat} {elt : Ex} {tg : Tg} {cond : Tes0}
    (e1 : Ext F β F1 β1) (s1 : Sim K cA F1 β1 S1 H1) (en : EnvR K F1 β1 Γ σ) (i1 : ItOk K cA F1 β1 J xs G)
    (q : G (S1 ++ [.lst []]) ∧ cpL (fun x S => bindT S tg x (wipeA Γ own)) (fun Γ S Q => WT0 C cond Γ S Q) (fun Γ S Q => W C elt Γ S Q (fun _ _ => False)) G S1.length (post K cA F β Q) xs (S1 ++ [.lst []])) (hin : ∀ i ∈ tgS tg, i ∈ own) :
    ∀ D, H1 D = none → ∃ Wd : Nat → Nat → Hp → Prop, (∃ m, Wd 0 m (upd H1 D (.lst []))) ∧ ∀ i m H, Wd i m H →
      (J.stop i H ∧ Q (.ref D) H) ∨ (J.go i H ∧ ∃ Nx : Hp → Prop, (∀ H', Nx H' → ∃ m', m' < m ∧ Wd (i + 1) m' H') ∧ ∀ x H', J.yld i H x H' → liftG K cA (tgS tg) (fun S v Γ => bindT S tg v Γ) x (wipe σ own) H' fun σ2 H2 => wipe σ2 own = wipe σ own ∧
        liftT K cA (fun _ _ _ _ => False) (fun Γ S P _ => WT0 C cond Γ S P) σ2 H2 fun b H3 => if b = true then liftE K cA (fun _ _ _ _ => False) (W C elt) σ2 H3 fun y H4 => ∃ acc, H4 D = some (.lst acc) ∧ acc.length < sizeLine ∧ Nx (upd H4 D (.lst (acc ++ [y]))) else Nx H3) := by
  intro D hD
  have s2 := s1.new hD (o := .lst []) (u := .lst []) ⟨[], upd_same, rfl⟩
  have eD : Ext F1 β1 F1 (β1 ++ [D]) := ⟨Same.refl _, List.prefix_append _ _⟩
  have atD : (β1 ++ [D])[S1.length]? = some D := by rw [← s1.len]; simp
  obtain ⟨q1, q2⟩ := q
  refine ⟨fun i m H => m = xs.length - i ∧ i ≤ xs.length ∧ ∃ F' β' S', Ext F1 (β1 ++ [D]) F' β' ∧ Sim K cA F' β' S' H ∧ G S' ∧ cpL (fun x S => bindT S tg x (wipeA Γ own)) (fun Γ S Q => WT0 C cond Γ S Q) (fun Γ S Q => W C elt Γ S Q (fun _ _ => False)) G S1.length (post K cA F β Q) (xs.drop i) S',
    ⟨xs.length, rfl, Nat.zero_le _, F1, β1 ++ [D], S1 ++ [Ob.lst []], Ext.refl _ _, s2, q1, by exact q2⟩, ?_⟩
  rintro i m H ⟨rfl, hi, F', β', S', e', s', g', c'⟩
  have eJ : Ext F1 β1 F' β' := eD.trans e'
  by_cases hlt : i < xs.length
  · refine .inr ⟨i1.go F' β' S' H i eJ s' g' hlt, fun H' => ∃ F' β' S', Ext F1 (β1 ++ [D]) F' β' ∧ Sim K cA F' β' S' H' ∧ G S' ∧ cpL (fun x S => bindT S tg x (wipeA Γ own)) (fun Γ S Q => WT0 C cond Γ S Q) (fun Γ S Q => W C elt Γ S Q (fun _ _ => False)) G S1.length (post K cA F β Q) (xs.drop (i + 1)) S',
      fun H' z => ⟨xs.length - (i + 1), by omega, rfl, hlt, z⟩, fun x H' hy => ?_⟩
    obtain ⟨F2, v, hv, e2, s2, r2⟩ := i1.yld F' β' S' H i x H' eJ s' g' hlt hy
    have hd : xs.drop i = v :: xs.drop (i + 1) := by
      rw [List.drop_eq_getElem_cons hlt]
      rw [List.getElem?_eq_getElem hlt] at hv
      cases hv; rfl
    rw [hd] at c'
    obtain ⟨Γ1, hb, ht⟩ := c'
    refine ⟨F2, β', wipeA Γ own, S', v, Γ1, s2, (en.ext (eJ.trans e2)).wipe own, r2, hb, fun σ2 en2 l2 o2 => ⟨wipe_wipe o2 l2 hin, F2, β', Γ1, S', s2, en2, WT0_mono hC cond _ _ _ _ (fun b S3 q3 F3 β3 H3 e3 s3 => ?_) ht⟩⟩
    cases b with
    | false => exact ⟨F3, β3, S3, (e'.trans e2).trans e3, s3, q3⟩
    | true =>
      refine ⟨F3, β3, Γ1, S3, s3, en2.ext e3, W_mono hC elt _ _ _ _ _ _ (fun y S4 ⟨acc, h1, h2, h3, h4⟩ F4 β4 H4 z e4 s4 r4 => ?_) (fun _ _ z => z.elim) q3⟩
      have eD4 : Ext F1 (β1 ++ [D]) F4 β4 := ((e'.trans e2).trans e3).trans e4
      have aD : β4[S1.length]? = some D := pre_get eD4.pre atD
      obtain ⟨a, ys, ea, ta, e5, q5⟩ := loc_ok s4 h1 (x := .ref D) ⟨D, rfl, aD⟩
      cases ea
      refine ⟨ys, e5, by rw [← q5.len]; exact Nat.lt_trans h2 (by decide), F4, β4, _, eD4, put_lst s4 h1 aD (VRs.append q5 (VRs.one r4)), h3, h4⟩
  · have ei : i = xs.length := by omega
    subst ei
    refine .inl ⟨i1.stop F' β' S' H eJ s' g', ?_⟩
    rw [List.drop_length] at c'
    exact c' F' β' H (.ref D) (e1.trans eJ) s' ⟨D, rfl, pre_get e'.pre atD⟩

/-! ### a[::2] -/
theorem evens_range {α : Type} : ∀ (n : Nat) (xs : List α), xs.length ≤ n → (List.range ((xs.length + 1) / 2)).filterMap (fun k => xs[2 * k]?) = evensL xs
  | _, [], _ => by simp [evensL]
  | _, [x], _ => by
    have e : ([x].length + 1) / 2 = 1 := by simp
    rw [e]
    simp [evensL, List.range_succ]
  | 0, _ :: _ :: _, h => by simp at h
  | n + 1, x :: y :: r, h => by
    have ih := evens_range n r (by simp at h; omega)
    have e : ((x :: y :: r).length + 1) / 2 = (r.length + 1) / 2 + 1 := by simp only [List.length_cons]; omega
    rw [e, List.range_succ_eq_map, List.filterMap_cons]
    simp only [Nat.mul_zero, List.getElem?_cons_zero]
    rw [List.filterMap_map]
    refine congrArg (x :: ·) (Eq.trans ?_ ih)
    refine congrArg (List.filterMap · _) (funext fun k => ?_)
    show (x :: y :: r)[2 * (k + 1)]? = r[2 * k]?
    rw [show 2 * (k + 1) = (2 * k + 1) + 1 from by omega, List.getElem?_cons_succ, List.getElem?_cons_succ]
theorem pick_evens (items : Array Value) : slicePick items none none (some 2) = (evensL items.toList).toArray := by
  unfold slicePick
  have e : sliceRange (sliceBounds none none (some 2) items.size).1 (sliceBounds none none (some 2) items.size).2.1 (sliceBounds none none (some 2) items.size).2.2 = (List.range ((items.size + 1) / 2)).map (fun k => 2 * k) := by
    show sliceRange 0 (items.size : Int) 2 = _
    unfold sliceRange
    have h1 : (2 : Int) > 0 := by decide
    simp only [h1, if_true]
    by_cases h : (0 : Int) < items.size
    · rw [if_pos h]
      have e2 : (((items.size : Int) - 0 + 2 - 1) / 2).toNat = (items.size + 1) / 2 := by omega
      rw [e2]
      refine List.map_congr_left fun k _ => ?_
      omega
    · rw [if_neg h]
      have e3 : items.size = 0 := by omega
      rw [e3]; rfl
  rw [e, List.filterMap_map]
  congr 1
  rw [← evens_range items.toList.length items.toList (Nat.le_refl _)]
  rw [Array.length_toList]
  refine congrArg (List.filterMap · _) (funext fun k => ?_)
  show items[2 * k]? = items.toList[2 * k]?
  simp
theorem evens_len {α : Type} : ∀ (xs : List α), (evensL xs).length ≤ xs.length
  | [] => Nat.le_refl _
  | [x] => Nat.le_refl _
  | x :: y :: r => by have := evens_len r; simp only [evensL, List.length_cons]; omega
theorem VRs.evens {K : PySem.W.Frag} {F : Hp} {β : List Addr} : ∀ {xs : List Va} {ys : List V}, VRs K F β xs ys → VRs K F β (evensL xs) (evensL ys)
  | [], _, h => by cases (show _ = [] from h); rfl
  | [x], _, ⟨y, r, e, q, h⟩ => by cases (show r = [] from h); subst e; exact ⟨y, [], rfl, q, rfl⟩
  | x :: x2 :: xs, _, ⟨y, r, e, q, y2, r2, e2, q2, h⟩ => by subst e; subst e2; exact ⟨y, _, rfl, q, VRs.evens h⟩
theorem vals_evens : ∀ {xs : List V} {us : List Value}, Vals xs us → Vals (evensL xs) (evensL us)
  | _, _, .nil => .nil
  | _, _, .cons a .nil => .cons a .nil
  | _, _, .cons a (.cons _ t) => .cons a (vals_evens t)
def tEvens (K : PySem.W.Frag) (te : TE) : TE := fun σ H Q => te σ H fun x H1 => ∃ a xs, x = .ref a ∧ SqL K H1 a xs ∧ ∀ p, H1 p = none → Q (.ref p) (upd H1 p (.lst (evensL xs)))
theorem pe_evens {X : Cx} {e : Expr} {te : TE} {j : Nat} {p1 p2 pos : Pos} (he : PE X e te) : PE X (.Subscript e (.Slice none none (some (.Constant (.int 2) j p1)) p2) pos) (tEvens X.K te) := by
  refine ⟨fun pins s σ H Q I h => ?_⟩
  refine PyProof.Rows.Subscript_ (thn (he.run pins s σ H _ I h) fun v s1 ⟨x, H1, I1, r1, a, xs, ex, hx, q1⟩ => ?_)
  subst ex
  cases r1
  refine wpAny_Slice ?_
  rw [evalPart_none]
  refine wpAny_pure (wpAny_pure ?_)
  rw [evalPart_some]
  refine wpAny_Constant_int ?_
  have I4 : Inv X pins σ H1 { s1 with heap := s1.heap.push { cls := .type "slice", data := .fields #[.none, .none, .int 2 s1.toks] }, toks := s1.toks + 1 } := I1.kept fun b ob q => Heap.get?_push_of_some _ q
  obtain ⟨its, r, ht, hz⟩ := I4.list hx
  have hlen := r.length
  refine PyProof.Rows.tail_any (ops := [.ref a, .ref s1.heap.objs.size]) ht.isList.typeIs slot_list_getitem.lookup ?_ (by with_unfolding_all rfl)
  refine wpAny_getItem_list_slice ht.isList (Heap.IsSliceOf.new ..) .none .none (.int 2 s1.toks) (by simp) ?_ (by rw [List.size_toArray] <;> omega)
  rw [pick_evens]
  refine ⟨.ref _, _, I4.laid (t' := _) (o := .lst (evensL xs)) (fun b ob q => Heap.get?_push_of_some _ q) (Nat.le_refl _) ?_, rfl, q1 _ (I4.hok.fresh (Nat.le_refl _))⟩
  exact ⟨Nat.le_trans (evens_len xs) hz, _, 0, vals_evens r, Heap.get?_push_size _ rfl⟩
/-! ### functions made here -/
theorem ckLc_star {c : Ctx} {id : Str} {js : List Nat} : ∀ (ms : Exs) (es : List Expr) (pos : Pos) (env : PySem.Env), ckLc c id js ms es = true → (backTo pos (starEach es env)).any (·.1) = false
  | .nil, es, pos, env, h => by
    simp only [ckLc] at h
    split at h
    · rfl
    · cases h
  | .cons m ms, es, pos, env, h => by
    simp only [ckLc] at h
    split at h
    · obtain ⟨h, h3⟩ := ba h
      obtain ⟨h1, h2⟩ := ba h
      rw [star_cons h2]
      have := ckLc_star ms _ pos env h3
      simpa [backTo] using this
    · cases h
theorem ckLc_first {c : Ctx} {id : Str} {js : List Nat} (es : Exs) (e : List Expr) (pos : Pos) (env : PySem.Env) (h3 : ckLc c id js es e = true) : ∃ e1 es', e = e1 :: es' ∧ starEach (e1 :: es') env = (false, eval e1 env) :: starEach es' env ∧ (backTo pos (starEach es' env)).any (·.1) = false := by
  cases es with
  | nil =>
    simp only [ckLc] at h3
    split at h3
    · exact ⟨_, _, rfl, rfl, rfl⟩
    · cases h3
  | cons m ms =>
    simp only [ckLc] at h3
    split at h3
    · obtain ⟨h3, h5⟩ := ba h3
      exact ⟨_, _, rfl, star_cons (ba h3).2 _ _, ckLc_star ms _ _ _ h5⟩
    · cases h3
theorem plainA_def {params : Arguments} (h : (plainA params).isSome = true) (env : PySem.Env) : defaultsOf params env = ([], []) := by
  unfold plainA at h
  split at h
  · rfl
  · rfl
  · rfl
  · cases h
theorem getD_of {N : List Str} {j : Nat} (h : (N[j]?).isSome = true) : N[j]? = some (N.getD j "") := by
  cases e : N[j]? with
  | none => rw [e] at h; cases h
  | some x => simp [List.getD, e]
/-- what is captured, as values -/
theorem caps_ok {K : PySem.W.Frag} {F : Hp} {β : List Addr} {Γ : Env} {σ : St} (en : EnvR K F β Γ σ) : ∀ {js : List Nat} {ws : List Va}, capsA Γ js = some ws → ∃ xs, VRs K F β ws xs ∧ js.map (NdefX.slotAt σ) = xs.map some
  | [], ws, h => by cases h; exact ⟨[], rfl, rfl⟩
  | j :: js, ws, h => by
    simp only [capsA] at h
    split at h
    · rename_i v vs h1 h2
      cases h
      obtain ⟨x, e1, r⟩ := en.get h1
      obtain ⟨xs, rs, e2⟩ := caps_ok en h2
      exact ⟨x :: xs, ⟨x, xs, rfl, r, rs⟩, by rw [List.map_cons, List.map_cons, e2, NdefX.slotAt_of e1]⟩
    · cases h
/-- a def called over a base of its own -/
theorem run_hand {X : Cx} {CX : CXT} {E : XK} {base : Heap} {k : Nat} {f : Addr} {fd : FuncData} {ps : List Str} {sp : Sp} {pins : List (Addr × Obj)} {σ : St} {H : Hp} {s : Shared} {Q : VK} {us : List Value} {xs : List V} (F : FnOk X.prog X.w X.K X.mg base CX k f fd ps sp) (hr : Room k X.A) (hb : Binds X.K fd ps []) (hx : PassesAt CX X σ E)
    (I : Inv X pins σ H s) (e0 : Env0 X.prog X.w X.K X.mg base X.A X.stack s H) (r : Vals xs us) (h : sp xs H Q E) : wpAny (model X.prog X.w) X.A (PySem.call (.ref f) us) (EP X pins σ Q) X.xe s := by
  have hl : us.length = ps.length := by rw [← r.length]; exact F.len _ _ _ _ h
  have b := hb s us I.kIn (by rw [List.append_nil]; exact hl)
  rw [List.append_nil] at b
  refine wpAny_call (codeAny_mono (F.run X.A X.stack s H ⟨us, []⟩ us xs Q E hr e0 b r h) fun r s' hq => ?_)
  cases r with
  | error e => exact hx pins H s e s' I hq
  | ok fl =>
    cases fl with
    | ret u => exact I.after hq
    | next => exact False.elim hq
    | brk => exact False.elim hq
    | cont => exact False.elim hq
/-- a lambda handed over: the function, the base with it -/
theorem lam_hand {c : Ctx} {cA : Str → Addr} {T : Tab} {k : Nat} {cur : Option (Addr × Str)} {Wx : WX} {X : Cx} (g : Gd c cA T k cur Wx X) {id q : Str} {js : List Nat} {params : Arguments} {body : Expr} {scope : Scope} {lpos : Pos} (hk : ckLam c id js params (.expr body) scope = true) (hq : c.lm.contains q = true)
    {pins : List (Addr × Obj)} {σ : St} {H : Hp} {s : Shared} (I : Inv X pins σ H s) {F : Hp} {β : List Addr} {S : Sto} (si : Sim X.K cA F β S H) (ht : hasTab S q) {xs : List V} (hxs : js.map (NdefX.slotAt σ) = xs.map some) {Post : Value → Shared → Prop}
    (h : ∀ (z : Clo) (H1 : Hp) (s1 : Shared) (F1 : Hp) (base : Heap), z.id = id → z.xs = xs → Inv X pins σ H1 s1 → Ext F β F1 β → Sim X.K cA F1 β S H1 → F1 z.c = some (LamX.CodeO z.c z.q) → Env0 X.prog X.w X.K X.mg base X.A X.stack s1 H1 → FnsOk X.prog X.w X.K X.mg base cA (T.add z) k c.fs → PySem.W.FnAt z.f s1.heap → Post (.ref z.f) s1) :
    wpAny (model X.prog X.w) X.A (eval (.Lambda params body scope lpos) X.env) Post X.xe s := by
  obtain ⟨hk, h4⟩ := ba hk
  obtain ⟨hk, h3⟩ := ba hk
  obtain ⟨h1, h2⟩ := ba hk
  obtain ⟨i, hi⟩ := ht
  have hm : q ∈ c.lm := by simpa using hq
  obtain ⟨eq, cc, hcode, TB⟩ := g.lam q hm
  have hfr : ∀ y ∈ scope.names, y.2 = .free → X.env.scope.names.lookup y.1 = some .cell ∨ X.env.scope.names.lookup y.1 = some .free := by rw [g.sc]; exact NdefX.ndef_free h2
  have hfree : ∀ y ∈ scope.names, y.2 = .free → ∃ c, X.env.cells.lookup y.1 = some c := fun y hy e => (hfr y hy e).elim (fun z => I.ok.has _ (.inl z)) fun z => I.ok.has _ (.inr z)
  refine lam_free I TB hcode eq (si.tabS hi) (plainA_def h3 _) hfree fun f c' pm ctv H1 s1 I1 hf hn hfs tu => ?_
  obtain ⟨F1, e1, s2, hc1⟩ := si.tabUpC hi tu
  obtain ⟨base, sub, bf, bc, e0⟩ := base_add I1 (g.fnall (fun e => by rw [e] at hm; cases hm)) hf hn hfs
  obtain ⟨d, hd, hkN⟩ := g.ndk _ _ _ _ _ h4
  have hjs : js.map (fun j => X.N[j]?) = (js.map fun j => c.N.getD j "").map some := by
    rw [List.map_map]
    refine List.map_congr_left fun j hj => ?_
    rw [g.hN]
    exact getD_of (List.all_eq_true.mp h1 j hj)
  have cp : NdefX.Caps X (cloFrom X.env.cells scope.names []) (js.map fun j => c.N.getD j "") js := NdefX.Caps.made I1.ok hfr (NdefX.ndef_fr h2) hjs
  have CA := NdefX.cells_of I1 cp
  have toB : ∀ y cl v, X.env.cells.lookup y = some cl → s1.heap.IsCell cl v → base.IsCell cl v := fun y cl v e ⟨o, ho, hd⟩ => ⟨o, bc y cl o e ho, hd⟩
  have CB : CellsB (cloFrom X.env.cells scope.names []) (js.map fun j => c.N.getD j "") xs base := by
    have hl := congrArg List.length hxs
    rw [List.length_map, List.length_map] at hl
    refine ⟨by rw [List.length_map, hl], fun y cl e => ?_, CA.inj, fun i y e => ?_⟩
    · obtain ⟨_, v, z⟩ := CA.all y cl e
      exact ⟨v, toB y cl v (cp.sub y cl e) z⟩
    · obtain ⟨cl, e2, hv⟩ := CA.has i y e
      have hi : i < xs.length := by
        have := lt_of_get e
        rw [List.length_map] at this
        omega
      have ev : (js.map (NdefX.slotAt σ))[i]? = some (some xs[i]) := by rw [hxs, List.getElem?_map, List.getElem?_eq_getElem hi]; rfl
      obtain ⟨u, ru, hu⟩ := hv xs[i] ev
      exact ⟨cl, e2, xs[i], u, List.getElem?_eq_getElem hi, ru, toB y cl _ (cp.sub y cl e2) hu⟩
  refine h ⟨f, c', id, q, xs⟩ H1 s1 F1 base rfl rfl I1 e1 s2 hc1 e0 (g.up base ⟨f, c', id, q, xs⟩ sub ?_) ⟨_, _, _, _, hf⟩
  exact ⟨"<lambda>", params, .expr body, scope, _, _, d, .none, pm, ctv, none, #[], hd, hkN, bf, CB⟩
section
variable {c : Ctx} {cA : Str → Addr} {T : Tab} {k : Nat} {cur : Option (Addr × Str)}
mutual
theorem sndE : ∀ (c : Ctx) (m : Ex) (X : Cx) (Wx : WX), Gd c cA T k cur Wx X → ∀ (e : Expr), ckE c m e = true → PE X e (liftE X.K cA Wx (W (orcE T k cur) m))
  | c, .var i, X, Wx, g, e, h => by
    simp only [ckE] at h
    split at h
    · obtain ⟨h1, h2⟩ := ba h
      refine (pe_var (i := i) (by rw [g.hN]; exact of_decide_eq_true h1) (g.vis _ h2) ?_ ?_).weak fun σ H Q ⟨F, β, Γ, S, s, en, v, hv, q⟩ => ?_
      · have := (ba (ba h2).1).2; simpa using this
      · have := (ba h2).2; simpa using this
      · obtain ⟨x, e1, r⟩ := en.get hv
        exact ⟨x, e1, post_here s r q⟩
    · cases h
  | c, .int i, X, Wx, g, e, h => by
    simp only [ckE] at h
    split at h
    · have := of_decide_eq_true h
      subst this
      exact pe_int.weak fun σ H Q ⟨F, β, Γ, S, s, en, q⟩ => post_here (v := .int _) s rfl q
    · cases h
  | c, .bl b, X, Wx, g, e, h => by
    simp only [ckE] at h
    split at h
    · have := of_decide_eq_true h
      subst this
      exact pe_bl.weak fun σ H Q ⟨F, β, Γ, S, s, en, q⟩ => post_here (v := .bl _) s rfl q
    · cases h
  | c, .non, X, Wx, g, e, h => by
    simp only [ckE] at h
    split at h
    · exact pe_non.weak fun σ H Q ⟨F, β, Γ, S, s, en, q⟩ => post_here (v := .non) s rfl q
    · cases h
  | c, .str x, X, Wx, g, e, h => by
    simp only [ckE] at h
    split at h
    · have := of_decide_eq_true h
      subst this
      exact pe_str.weak fun σ H Q ⟨F, β, Γ, S, s, en, q⟩ => post_here (v := .str _) s rfl q
    · cases h
  | c, .glob x, X, Wx, g, e, h => by
    simp only [ckE] at h
    split at h
    · obtain ⟨h1, h2⟩ := ba h
      have hx := of_decide_eq_true h1
      subst hx
      refine ⟨fun pins s σ H Q I ⟨F, β, Γ, S, si, en, v, hv, q⟩ => ?_⟩
      obtain ⟨u, y, hm, ru, hr⟩ := g.glo _ (lk_mem hv)
      exact ld_glob I (g.gl _ h2) hm ⟨y, H, I, ru, post_here si (hr F β) q⟩ (by have := (ba (ba h2).1).2; simpa using this)
    · cases h
  | c, .tup es, X, Wx, g, e, h => by
    simp only [ckE] at h
    split at h
    · refine (pe_tup (sndL _ es X Wx g _ h)).weak fun σ H Q ⟨F, β, Γ, S, s, en, q⟩ => ?_
      refine runL (orcE_mono T k cur) s en q (fun _ _ q => q) fun F1 β1 S1 H1 vs xs e1 s1 r1 ⟨z, q1⟩ => ⟨?_, fun p hp => ?_⟩
      · rw [← r1.len]; exact Nat.le_trans z (by decide)
      · obtain ⟨s2, sb⟩ := s1.lay hp (.tup xs)
        exact q1 _ _ _ _ ⟨e1.sub.trans sb, e1.pre⟩ s2 ⟨p, xs, rfl, SqT.of upd_same, VRs.mono sb (List.prefix_refl _) _ _ r1⟩
    · cases h
  | c, .lst es, X, Wx, g, e, h => by
    simp only [ckE] at h
    split at h
    · refine (pe_lst (sndL _ es X Wx g _ h)).weak fun σ H Q ⟨F, β, Γ, S, s, en, q⟩ => ?_
      refine runL (orcE_mono T k cur) s en q (fun _ _ q => q) fun F1 β1 S1 H1 vs xs e1 s1 r1 ⟨z, q1⟩ => ⟨?_, fun p hp => ?_⟩
      · rw [← r1.len]; exact Nat.le_trans z (by decide)
      · have s2 := s1.new hp (o := .lst vs) (u := .lst xs) ⟨xs, upd_same, VRs.mono (Same.refl _) (List.prefix_append _ _) _ _ r1⟩
        refine q1 _ _ _ _ ⟨e1.sub, e1.pre.trans (List.prefix_append _ _)⟩ s2 ⟨p, rfl, ?_⟩
        rw [← s1.len]; simp
    · cases h
  | c, .bin op a b, X, Wx, g, e, h => by
    simp only [ckE] at h
    split at h
    · obtain ⟨h, h3⟩ := ba h
      obtain ⟨h1, h2⟩ := ba h
      obtain ⟨r, ho, hs⟩ := bin_ok (X := X) (cA := cA) h1
      refine (pe_op ho (sndE _ a X Wx g _ h2) (sndE _ b X Wx g _ h3)).weak fun σ H Q ⟨F, β, Γ, S, s, en, q⟩ => ?_
      refine runE (orcE_mono T k cur) s en q (fun _ _ q => q) fun F1 β1 S1 H1 v x e1 s1 r1 q1 => ?_
      refine runE (orcE_mono T k cur) s1 (en.ext e1) q1 (postX_ext e1) fun F2 β2 S2 H2 u y e2 s2 r2 q2 => ?_
      exact hs F2 β2 S2 H2 v u x y Q s2 (r1.ext e2) r2 (wBin_mono (fun _ _ z => post_ext (e1.trans e2) z) q2)
    · cases h
  | c, .neg a, X, Wx, g, e, h => by
    simp only [ckE] at h
    split at h
    · refine (pe_un un_neg (sndE _ a X Wx g _ h)).weak fun σ H Q ⟨F, β, Γ, S, s, en, q⟩ => ?_
      refine runE (orcE_mono T k cur) s en q (fun _ _ q => q) fun F1 β1 S1 H1 v x e1 s1 r1 q1 => ?_
      exact neg_ok s1 r1 (wNeg_mono (fun _ _ z => post_ext e1 z) q1)
    · cases h
  | c, .cmp op a b, X, Wx, g, e, h => by
    simp only [ckE] at h
    split at h
    · obtain ⟨h, h4⟩ := ba h
      obtain ⟨h, h3⟩ := ba h
      obtain ⟨h1, h2⟩ := ba h
      obtain ⟨r, ho, hs⟩ := cmp_ok (X := X) (cA := cA) g.u65 h1
      refine (pe_cmpR ho (sndE _ a X Wx g _ h2) (sndE _ b X Wx g _ h3) (noSet_mark h4 _)).weak fun σ H Q ⟨F, β, Γ, S, s, en, q⟩ => ?_
      refine runE (orcE_mono T k cur) s en q (fun _ _ q => q) fun F1 β1 S1 H1 v x e1 s1 r1 q1 => ?_
      refine runE (orcE_mono T k cur) s1 (en.ext e1) q1 (postX_ext e1) fun F2 β2 S2 H2 u y e2 s2 r2 q2 => ?_
      exact hs F2 β2 S2 H2 v u x y Q s2 (r1.ext e2) r2 (wCmp_mono (fun _ _ z => post_ext (e1.trans e2) z) q2)
    · cases h
  | c, .isN a, X, Wx, g, e, h => by
    simp only [ckE] at h
    split at h
    · refine (pe_cmp (pc_isN (sndE _ a X Wx g _ h)) rfl).weak fun σ H Q ⟨F, β, Γ, S, s, en, q⟩ => ?_
      refine runE (orcE_mono T k cur) s en q (fun _ _ q => q) fun F1 β1 S1 H1 v x e1 s1 r1 q1 => ?_
      rw [isNon_ok r1]
      exact post_here (v := .bl _) s1 rfl (post_ext e1 q1)
    · cases h
  | c, .notN a, X, Wx, g, e, h => by
    simp only [ckE] at h
    split at h
    · refine (pe_cmp (pc_notN (sndE _ a X Wx g _ h)) rfl).weak fun σ H Q ⟨F, β, Γ, S, s, en, q⟩ => ?_
      refine runE (orcE_mono T k cur) s en q (fun _ _ q => q) fun F1 β1 S1 H1 v x e1 s1 r1 q1 => ?_
      rw [isNon_ok r1]
      exact post_here (v := .bl _) s1 rfl (post_ext e1 q1)
    · cases h
  | c, .chain op op' a b d, X, Wx, g, e, h => by
    simp only [ckE] at h
    split at h
    · obtain ⟨h, h6⟩ := ba h
      obtain ⟨h, h5⟩ := ba h
      obtain ⟨h, h4⟩ := ba h
      obtain ⟨h, h3⟩ := ba h
      obtain ⟨h1, h2⟩ := ba h
      obtain ⟨r, ho, hs⟩ := cmp_ok (X := X) (cA := cA) g.u65 h1
      obtain ⟨r', ho', hs'⟩ := cmp_ok (X := X) (cA := cA) g.u65 h2
      refine (pe_chain ho ho' (sndE _ a X Wx g _ h3) (sndE _ b X Wx g _ h4) (sndE _ d X Wx g _ h5) (noSet_mark h6 _)).weak fun σ H Q ⟨F, β, Γ, S, s, en, q⟩ => ?_
      refine runE (orcE_mono T k cur) s en q (fun _ _ q => q) fun F1 β1 S1 H1 v x e1 s1 r1 q1 => ?_
      refine runE (orcE_mono T k cur) s1 (en.ext e1) q1 (postX_ext e1) fun F2 β2 S2 H2 u y e2 s2 r2 q2 => ?_
      refine hs F2 β2 S2 H2 v u x y _ s2 (r1.ext e2) r2 (wCmp_mono (fun z S3 ⟨kk, ez, z3⟩ => ?_) q2)
      subst ez
      intro F3 β3 H3 zz e3 s3 rz
      cases rz
      refine ⟨kk, rfl, ?_⟩
      cases kk with
      | true =>
        refine runE (orcE_mono T k cur) s3 (en.ext (e1.trans (e2.trans e3))) z3 (postX_ext (e1.trans (e2.trans e3))) fun F4 β4 S4 H4 w y4 e4 s4 r4 q4 => ?_
        exact hs' F4 β4 S4 H4 u w y y4 Q s4 (r2.ext (e3.trans e4)) r4 (wCmp_mono (fun _ _ z => post_ext (e1.trans (e2.trans (e3.trans e4))) z) q4)
      | false => exact post_here (v := .bl _) s3 rfl (post_ext (e1.trans (e2.trans e3)) z3)
    · cases h
  | c, .chain3 op op' op'' a b d f, X, Wx, g, e, h => by
    simp only [ckE] at h
    split at h
    · obtain ⟨h, h8⟩ := ba h
      obtain ⟨h, h7⟩ := ba h
      obtain ⟨h, h6⟩ := ba h
      obtain ⟨h, h5⟩ := ba h
      obtain ⟨h, h4⟩ := ba h
      obtain ⟨h, h3⟩ := ba h
      obtain ⟨h1, h2⟩ := ba h
      obtain ⟨r, ho, hs⟩ := cmp_ok (X := X) (cA := cA) g.u65 h1
      obtain ⟨r', ho', hs'⟩ := cmp_ok (X := X) (cA := cA) g.u65 h2
      obtain ⟨r'', ho'', hs''⟩ := cmp_ok (X := X) (cA := cA) g.u65 h3
      refine (pe_chain3 ho ho' ho'' (sndE _ a X Wx g _ h4) (sndE _ b X Wx g _ h5) (sndE _ d X Wx g _ h6) (sndE _ f X Wx g _ h7) (noSet_mark h8 _)).weak fun σ H Q ⟨F, β, Γ, S, s, en, q⟩ => ?_
      refine runE (orcE_mono T k cur) s en q (fun _ _ q => q) fun F1 β1 S1 H1 v x e1 s1 r1 q1 => ?_
      refine runE (orcE_mono T k cur) s1 (en.ext e1) q1 (postX_ext e1) fun F2 β2 S2 H2 u y e2 s2 r2 q2 => ?_
      refine hs F2 β2 S2 H2 v u x y _ s2 (r1.ext e2) r2 (wCmp_mono (fun z S3 ⟨kk, ez, z3⟩ => ?_) q2)
      subst ez
      intro F3 β3 H3 zz e3 s3 rz
      cases rz
      refine ⟨kk, rfl, ?_⟩
      cases kk with
      | true =>
        refine runE (orcE_mono T k cur) s3 (en.ext (e1.trans (e2.trans e3))) z3 (postX_ext (e1.trans (e2.trans e3))) fun F4 β4 S4 H4 w y4 e4 s4 r4 q4 => ?_
        refine hs' F4 β4 S4 H4 u w y y4 _ s4 (r2.ext (e3.trans e4)) r4 (wCmp_mono (fun z S5 ⟨kk, ez, z5⟩ => ?_) q4)
        subst ez
        intro F5 β5 H5 zz e5 s5 rz
        cases rz
        refine ⟨kk, rfl, ?_⟩
        cases kk with
        | true =>
          refine runE (orcE_mono T k cur) s5 (en.ext (e1.trans (e2.trans (e3.trans (e4.trans e5))))) z5 (postX_ext (e1.trans (e2.trans (e3.trans (e4.trans e5))))) fun F6 β6 S6 H6 w6 y6 e6 s6 r6 q6 => ?_
          exact hs'' F6 β6 S6 H6 w w6 y4 y6 Q s6 (r4.ext (e5.trans e6)) r6 (wCmp_mono (fun _ _ z => post_ext (e1.trans (e2.trans (e3.trans (e4.trans (e5.trans e6))))) z) q6)
        | false => exact post_here (v := .bl _) s5 rfl (post_ext (e1.trans (e2.trans (e3.trans (e4.trans e5)))) z5)
      | false => exact post_here (v := .bl _) s3 rfl (post_ext (e1.trans (e2.trans e3)) z3)
    · cases h
  | c, .tst t, X, Wx, g, e, h => sndB _ t X Wx g e (by simpa only [ckE] using h)
  | c, .ite t a b, X, Wx, g, e, h => by
    simp only [ckE] at h
    split at h
    · obtain ⟨h, h3⟩ := ba h
      obtain ⟨h1, h2⟩ := ba h
      refine (pe_ifExp (sndT _ t X Wx g _ h1) (sndE _ a X Wx g _ h2) (sndE _ b X Wx g _ h3)).weak fun σ H Q ⟨F, β, Γ, S, s, en, q⟩ => ?_
      refine runT (orcE_mono T k cur) s en q (fun _ _ q => q) fun F1 β1 S1 H1 v e1 s1 q1 => ?_
      cases v with
      | true => exact runE (orcE_mono T k cur) s1 (en.ext e1) q1 (postX_ext e1) fun F2 β2 S2 H2 u y e2 s2 r2 q2 => post_here s2 r2 (post_ext (e1.trans e2) q2)
      | false => exact runE (orcE_mono T k cur) s1 (en.ext e1) q1 (postX_ext e1) fun F2 β2 S2 H2 u y e2 s2 r2 q2 => post_here s2 r2 (post_ext (e1.trans e2) q2)
    · cases h
  | c, .call f es, X, Wx, g, e, h => by
    simp only [ckE] at h
    split at h
    · rename_i x p e1 es' pos
      obtain ⟨h, hh⟩ := ba h
      have hh : c.hot = false := by simpa using hh
      obtain ⟨h, h4⟩ := ba h
      obtain ⟨h, h3⟩ := ba h
      obtain ⟨h1, h2⟩ := ba h
      have hx := of_decide_eq_true h1
      subst hx
      have hst : noStar e1 = true ∧ (backTo pos (starEach es' X.env)).any (·.1) = false := by
        cases es with
        | nil => simp only [ckL] at h3; cases h3
        | cons m ms =>
          simp only [ckL] at h3
          obtain ⟨h3, h5⟩ := ba h3
          exact ⟨(ba h3).2, any_star ms _ _ _ h5⟩
      obtain ⟨d, a, fd, hd, hm, hk, hb, hF⟩ := g.fn x (by simpa using h4)
      refine (pe_callS (E := WE Wx) hF ((g.room hh).mono (by omega)) (g.gl _ h2) hm hk hb (fun σ => passAt g.tk σ) (sndL _ es X Wx g _ h3) (by have := (ba (ba h2).1).2; simpa using this) (star_cons hst.1 _ _) hst.2).weak fun σ H Q ⟨F, β, Γ, S, s, en, q⟩ => ?_
      refine runL (orcE_mono T k cur) s en q (fun _ _ q => q) fun F1 β1 S1 H1 vs xs e1 s1 r1 q1 => ?_
      exact ⟨F1, β1, S1, vs, s1, r1, (orcE_mono T k cur).run _ _ _ _ _ _ _ (fun _ _ z => post_ext e1 z) (fun c' S' z => postX_ext e1 c' S' z) q1⟩
    · rename_i x p pos
      obtain ⟨h, hh⟩ := ba h
      have hh : c.hot = false := by simpa using hh
      obtain ⟨h, h4⟩ := ba h
      obtain ⟨h, h3⟩ := ba h
      obtain ⟨h1, h2⟩ := ba h
      have hx := of_decide_eq_true h1
      subst hx
      cases es with
      | cons m ms => cases h3
      | nil =>
        obtain ⟨d, a, fd, hd, hm, hk, hb, hF⟩ := g.fn x (by simpa using h4)
        refine (pe_callZ (E := WE Wx) hF ((g.room hh).mono (by omega)) (g.gl _ h2) hm hk hb (fun σ => passAt g.tk σ) (by have := (ba (ba h2).1).2; simpa using this)).weak fun σ H Q ⟨F, β, Γ, S, s, en, q⟩ => ?_
        exact ⟨F, β, S, [], s, rfl, q⟩
    · cases h
  | c, .len a, X, Wx, g, e, h => by
    simp only [ckE] at h
    split at h
    · obtain ⟨h, h4⟩ := ba h
      obtain ⟨h, h3⟩ := ba h
      obtain ⟨h1, h2⟩ := ba h
      have hx := of_decide_eq_true h1
      subst hx
      refine (pe_callB call_lenD (g.gl _ h2) (g.blt _ (by decide)) boot_len (pa_cons (sndE _ a X Wx g _ h3) pa_nil (star_cons h4 _ _)) (he := star_cons h4 _ _)).weak fun σ H Q ⟨F, β, Γ, S, s, en, q⟩ => ?_
      refine runE (orcE_mono T k cur) s en q (fun _ _ q => q) fun F1 β1 S1 H1 v x e1 s1 r1 q1 => ?_
      obtain ⟨n, l, q2⟩ := len_ok s1 r1 (wLen_mono (fun _ _ z => post_ext e1 z) q1)
      exact ⟨x, n, rfl, l, q2⟩
    · cases h
  | c, .abs a, X, Wx, g, e, h => by
    simp only [ckE] at h
    split at h
    · obtain ⟨h, h4⟩ := ba h
      obtain ⟨h, h3⟩ := ba h
      obtain ⟨h1, h2⟩ := ba h
      have hx := of_decide_eq_true h1
      subst hx
      refine (pe_callB call_abs (g.gl _ h2) (g.blt _ (by decide)) (by decide +kernel) (pa_cons (sndE _ a X Wx g _ h3) pa_nil (star_cons h4 _ _)) (he := star_cons h4 _ _)).weak fun σ H Q ⟨F, β, Γ, S, s, en, q⟩ => ?_
      refine runE (orcE_mono T k cur) s en q (fun _ _ q => q) fun F1 β1 S1 H1 v x e1 s1 r1 q1 => ?_
      obtain ⟨i, rfl, q2⟩ := abs_ok s1 r1 (wAbs_mono (fun _ _ z => post_ext e1 z) q1)
      exact ⟨i, rfl, q2⟩
    · cases h
  | c, .maxd a d, X, Wx, g, e, h => by
    simp only [ckE] at h
    split at h
    · rename_i x p a' y d' kp pos
      obtain ⟨h, hh⟩ := ba h
      have hh : c.hot = false := by simpa using hh
      obtain ⟨h, h6⟩ := ba h
      obtain ⟨h, h5⟩ := ba h
      obtain ⟨h, h4⟩ := ba h
      obtain ⟨h, h3⟩ := ba h
      obtain ⟨h1, h2⟩ := ba h
      have hx := of_decide_eq_true h1
      have hy := of_decide_eq_true h3
      subst hx hy
      refine (pe_maxD (g.calm hh) g.u65 (g.gl _ h2) (g.blt _ (by decide)) (sndE _ a X Wx g _ h4) (sndE _ d X Wx g _ h5) (star_cons h6 _ _)).weak fun σ H Q ⟨F, β, Γ, S, s, en, q⟩ => ?_
      refine runE (orcE_mono T k cur) s en q (fun _ _ q => q) fun F1 β1 S1 H1 v x e1 s1 r1 q1 => ?_
      refine runE (orcE_mono T k cur) s1 (en.ext e1) q1 (postX_ext e1) fun F2 β2 S2 H2 u z e2 s2 r2 ⟨xs, ds, k1, k2, k3, k4, k5, k6⟩ => ?_
      obtain ⟨b, ys, rfl, e3, qq⟩ := k1.ok s2 (r1.ext e2)
      refine ⟨b, ys, ds, rfl, SqL.of e3, DVs.dp s2 k2 qq, k3, k4, fun e => k5 e F2 β2 H2 z (e1.trans e2) s2 r2, fun y zs i w e hw hd => ?_⟩
      obtain ⟨w', hw', rw'⟩ := qq.at hw
      exact k6 y zs i w' e hw' hd F2 β2 H2 w (e1.trans e2) s2 rw'
    · cases h
  | c, .sortk a z, X, Wx, g, e, h => by
    simp only [ckE] at h
    split at h
    · rename_i x p a' y params w p1 n j p2 p3 sc p4 kp y2 b j2 p5 kp2 pos
      obtain ⟨h, hh⟩ := ba h
      have hh : c.hot = false := by simpa using hh
      obtain ⟨h, h10⟩ := ba h
      obtain ⟨h, h9⟩ := ba h
      obtain ⟨h, h8⟩ := ba h
      obtain ⟨h, h7⟩ := ba h
      obtain ⟨h, h6⟩ := ba h
      obtain ⟨h, h5⟩ := ba h
      obtain ⟨h, h4⟩ := ba h
      obtain ⟨h, h3⟩ := ba h
      obtain ⟨h1, h2⟩ := ba h
      have hx := of_decide_eq_true h1
      have hy := of_decide_eq_true h3
      have hy2 := of_decide_eq_true h4
      have hn := of_decide_eq_true h6
      have hb : b = true := h5
      subst hx hy hy2 hn hb
      obtain ⟨hq, cc, hcode, TB⟩ := g.lam z (by simpa using h10)
      obtain ⟨e1, L, hd⟩ := lam1_ok h7
      obtain ⟨ap, e1⟩ := e1
      subst e1
      refine (pe_callBK (cr_sortK (q := z) (clos := cloFrom X.env.cells sc.names []) (p1 := p1) (p2 := p2) (p3 := p3) (j := j) (params := ⟨[], [⟨w, none, ap⟩], none, [], [], none, []⟩) (g.room hh) g.un L hd (fun _ _ _ _ => bind1)) (g.gl _ h2) (g.blt _ (by decide)) (by decide +kernel) (pa_cons (sndE _ a X Wx g _ h8) pa_nil (star_cons h9 _ _)) (pk_cons (pe_lambda TB hcode hq rfl (fun y hy e => by rw [L.own y hy] at e; cases e)) (pk_cons pe_bl pk_nil)) (he := by rw [star_cons h9]; rfl) (hpl := by rw [star_cons h9]; rfl)).weak fun σ H Q ⟨F, β, Γ, S, s, en, q⟩ => ?_
      refine runE (orcE_mono T k cur) s en q (fun _ _ q => q) fun F1 β1 S1 H1 v x e1 s1 r1 ⟨i, bs, k1, k2, k3, k4, k5, k6, k7⟩ => ?_
      refine ⟨s1.tabS k1, fun f c' pm ctv H2 tu nf hc => ?_⟩
      obtain ⟨F2, e2, s2⟩ := s1.tabUp k1 tu
      obtain ⟨s3, e3⟩ := s2.lay nf (LamO f (PySem.W.kla_obj "<lambda>" z _ _ sc (cloFrom X.env.cells sc.names []) pm c' ctv))
      have e4 : Ext F1 β1 _ β1 := e2.trans ⟨e3, List.prefix_refl _⟩
      obtain ⟨b, ys, rfl, hl, qq⟩ := k2.ok s3 (r1.ext e4)
      obtain ⟨cs, rfl, rfl, hcs⟩ := trip_of qq
      refine ⟨b, f, c', cs.map fun c => (c.1.2, c.2), pm, ctv, rfl, rfl, upd_same, (upd_ne (ne_of_none hc nf)).trans hc, SqL.of (by rw [List.map_map]; exact hl), ⟨fun u hu => ?_, by rw [List.map_map] at k4 ⊢; exact k4, by rw [List.map_map] at k5 ⊢; exact k5, fun u hu => ?_⟩, ?_⟩
      · obtain ⟨t, ht, rfl⟩ := List.mem_map.mp hu
        obtain ⟨kk, r, e, hd, htd⟩ := k3 _ (List.mem_map.mpr ⟨t, ht, rfl⟩)
        have rr := hcs t ht
        rw [show t.1.1 = _ from e] at rr
        obtain ⟨ad, zs, e5, st, y0, r0, rfl, ry, rs⟩ := rr
        exact ⟨ad, y0, r0, e5, SqT.mono s3.sub st, DV.dp s3 hd ry, htd⟩
      · obtain ⟨t, ht, rfl⟩ := List.mem_map.mp hu
        exact k6 _ (List.mem_map.mpr ⟨t, ht, rfl⟩)
      · have m1 := sort_map (fun c : (Va × V) × PyData => (c.1.2, c.2)) (fun _ => rfl) cs
        have m2 := sort_map (fun c : (Va × V) × PyData => (c.1.1, c.2)) (fun _ => rfl) cs
        rw [m1, List.map_map]
        rw [m2, List.map_map] at k7
        exact post_new s3 (trip_to fun t ht => hcs t (List.mem_mergeSort.mp ht)) (post_ext (e1.trans e4) k7)
    · cases h
  | c, .lrev a, X, Wx, g, e, h => by
    simp only [ckE] at h
    split at h
    · rename_i x p y p2 a' pos2 pos
      obtain ⟨h, hh⟩ := ba h
      have hh : c.hot = false := by simpa using hh
      obtain ⟨h, h6⟩ := ba h
      obtain ⟨h, h5⟩ := ba h
      obtain ⟨h, h4⟩ := ba h
      obtain ⟨h, h3⟩ := ba h
      obtain ⟨h1, h2⟩ := ba h
      have hx := of_decide_eq_true h1
      have hy := of_decide_eq_true h3
      subst hx hy
      refine (pe_listRev (g.calm hh) (g.gl _ h2) (g.blt _ (by decide)) (g.gl _ h4) (g.blt _ (by decide)) (sndE _ a X Wx g _ h5) (star_cons h6 _ _)).weak fun σ H Q ⟨F, β, Γ, S, s, en, q⟩ => ?_
      refine runE (orcE_mono T k cur) s en q (fun _ _ q => q) fun F1 β1 S1 H1 v x e1 s1 r1 ⟨xs, h1, q1⟩ => ?_
      rcases h1 with h1 | rfl
      · obtain ⟨b, ys, rfl, e2, qq⟩ := h1.ok s1 r1
        exact ⟨b, ys, rfl, .inl (SqL.of e2), post_new s1 qq.reverse (post_ext e1 q1)⟩
      · obtain ⟨b, ys, rfl, t2, qq⟩ := r1
        exact ⟨b, ys, rfl, .inr (SqT.mono s1.sub t2), post_new s1 qq.reverse (post_ext e1 q1)⟩
    · cases h
  | c, .isi a t, X, Wx, g, e, h => by
    simp only [ckE] at h
    split at h
    · obtain ⟨h, h6⟩ := ba h
      obtain ⟨h, h5⟩ := ba h
      obtain ⟨h, h4⟩ := ba h
      obtain ⟨h, h3⟩ := ba h
      obtain ⟨h1, h2⟩ := ba h
      have hx := of_decide_eq_true h1
      have hy := of_decide_eq_true h3
      subst hx hy
      have hty : ∀ p, PE X (.Name (tyN t) p) (tC (.ty (tyS t))) := fun p => pe_bltn (v := .ty (tyS t)) (u := .type (tyS t)) (g.gl _ h4) (g.blt _ (by cases t <;> decide)) (by cases t <;> decide +kernel) rfl (by cases t <;> decide) (by cases t <;> decide)
      refine (pe_callB call_isi (g.gl _ h2) (g.blt _ (by decide)) (by decide +kernel) (pa_cons (sndE _ a X Wx g _ h5) (pa_cons (hty _) pa_nil rfl) (star_cons h6 _ _)) (he := star_cons h6 _ _)).weak fun σ H Q ⟨F, β, Γ, S, s, en, q⟩ => ?_
      refine runE (orcE_mono T k cur) s en q (fun _ _ q => q) fun F1 β1 S1 H1 v x e1 s1 r1 ⟨b, q1, q2⟩ => ?_
      obtain ⟨tv, t1, t2⟩ := ty_ok s1 r1 q1
      exact ⟨x, _, tv, _, b, rfl, .ty _, t1, t2, post_here (v := .bl _) s1 rfl (post_ext e1 q2)⟩
    · cases h
  | c, .isE a z, X, Wx, g, e, h => by
    simp only [ckE] at h
    split at h
    · obtain ⟨h, h6⟩ := ba h
      obtain ⟨h, h5⟩ := ba h
      obtain ⟨h, h4⟩ := ba h
      obtain ⟨h, h3⟩ := ba h
      obtain ⟨h1, h2⟩ := ba h
      have hx := of_decide_eq_true h1
      have hy := (of_decide_eq_true h3).symm
      subst hx hy
      refine (pe_callB (call_isX (cA := cA) g.curok) (g.gl _ h2) (g.blt _ (by decide)) (by decide +kernel) (pa_cons (sndE _ a X Wx g _ h5) (pa_cons (cls_name (g.gl _ h4) (by have := (ba (ba h4).1).2; simpa using this) _) pa_nil rfl) (star_cons h6 _ _)) (he := star_cons h6 _ _)).weak fun σ H Q ⟨F, β, Γ, S, s, en, q⟩ => ?_
      refine runE (orcE_mono T k cur) s en q (fun _ _ q => q) fun F1 β1 S1 H1 v x e1 s1 r1 ⟨ad, hv, c', hc, b, hk, q2⟩ => ?_
      subst hv
      cases r1
      obtain ⟨w, cv, k1, k2, k3, k4, k5⟩ := g.xk _ (xk_mem hk)
      exact ⟨w, cv, k1, k2, ad, c', hc, w, cv, b, rfl, fun u ru => k1.eq ru, k4, k3, post_here (v := .bl _) s1 rfl (post_ext e1 q2)⟩
    · cases h
  | c, .isEt a zs, X, Wx, g, e, h => by
    simp only [ckE] at h
    split at h
    · obtain ⟨h, h6⟩ := ba h
      obtain ⟨h, h5⟩ := ba h
      obtain ⟨h, h7⟩ := ba h
      obtain ⟨h, h4⟩ := ba h
      obtain ⟨h1, h2⟩ := ba h
      obtain ⟨h7, h8⟩ := ba h7
      have hx := of_decide_eq_true h1
      subst hx
      refine (pe_callB (call_isXT (cA := cA) g.curok) (g.gl _ h2) (g.blt _ (by decide)) (by decide +kernel) (pa_cons (sndE _ a X Wx g _ h5) (pa_cons (pe_tup (cls_names (fun x hx => g.gl x hx) zs _ h4)) pa_nil rfl) (star_cons h6 _ _)) (he := star_cons h6 _ _)).weak fun σ H Q ⟨F, β, Γ, S, s, en, q⟩ => ?_
      refine runE (orcE_mono T k cur) s en q (fun _ _ q => q) fun F1 β1 S1 H1 v x e1 s1 r1 ⟨ad, hv, c', hc, b, hk, q2⟩ => ?_
      subst hv
      cases r1
      obtain ⟨vs, us, k1, k2, k3, k4⟩ := xks_ok (X := X) (cA := cA) g.xk hk
      refine ⟨vs, us, k1, by rw [clsL_len k1]; exact Nat.le_trans (of_decide_eq_true h7) (by decide), fun p hp => ?_⟩
      obtain ⟨s2, sb⟩ := s1.lay hp (.tup vs)
      exact ⟨ad, c', hc, p, vs, us, b, rfl, upd_same, k2, k3, k4 (of_decide_eq_true h8), q2 _ _ _ _ ⟨e1.sub.trans sb, e1.pre⟩ s2 rfl⟩
    · cases h
  | c, .isc a z, X, Wx, g, e, h => by
    simp only [ckE] at h
    split at h
    · obtain ⟨h, h6⟩ := ba h
      obtain ⟨h, h5⟩ := ba h
      obtain ⟨h, h4⟩ := ba h
      obtain ⟨h, h3⟩ := ba h
      obtain ⟨h1, h2⟩ := ba h
      have hx := of_decide_eq_true h1
      have hy := (of_decide_eq_true h3).symm
      subst hx hy
      have hcl : ∀ p, PE X (.Name z p) (fun σ H Q => ∃ C, X.mg z = some (.ref C) ∧ Q (.ref C) H) := fun p => ⟨fun pins s σ H Q I ⟨C, hm, q⟩ => ld_glob I (g.gl _ h4) hm ⟨.ref C, H, I, rfl, q⟩ (by have := (ba (ba h4).1).2; simpa using this)⟩
      refine (pe_callB call_isi (g.gl _ h2) (g.blt _ (by decide)) (by decide +kernel) (pa_cons (sndE _ a X Wx g _ h5) (pa_cons (hcl _) pa_nil rfl) (star_cons h6 _ _)) (he := star_cons h6 _ _)).weak fun σ H Q ⟨F, β, Γ, S, s, en, q⟩ => ?_
      refine runE (orcE_mono T k cur) s en q (fun _ _ q => q) fun F1 β1 S1 H1 v x e1 s1 r1 ⟨j, hv, ob, ho, b, hc, q2⟩ => ?_
      subst hv
      obtain ⟨cn, fs, rfl, hl⟩ := clsIs_ok hc
      obtain ⟨m1, ⟨i1, i2, i3, i4, i5⟩, m3⟩ := g.isa _ (isa_mem hl)
      obtain ⟨ad, rfl, ha⟩ := r1
      obtain ⟨b2, hb2, _, dx, ys, e2, _⟩ := s1.at ho
      rw [ha] at hb2
      cases hb2
      exact ⟨_, m1, _, _, _, _, b, rfl, .own _, .base (.ins e2 i1 i2 i3 i4 i5), m3, post_here (v := .bl _) s1 rfl (post_ext e1 q2)⟩
    · cases h
  | c, .sub a i, X, Wx, g, e, h => by
    simp only [ckE] at h
    split at h
    · obtain ⟨h, h3⟩ := ba h
      obtain ⟨h1, h2⟩ := ba h
      refine (pe_ix (((ix_list.or ix_tup).or ix_str).or (ix_dict (by have := g.u65; omega))) (sndE _ a X Wx g _ h1) (sndE _ i X Wx g _ h2) (noSlice_ix h3)).weak fun σ H Q ⟨F, β, Γ, S, s, en, q⟩ => ?_
      refine runE (orcE_mono T k cur) s en q (fun _ _ q => q) fun F1 β1 S1 H1 v x e1 s1 r1 q1 => ?_
      refine runE (orcE_mono T k cur) s1 (en.ext e1) q1 (postX_ext e1) fun F2 β2 S2 H2 u y e2 s2 r2 q2 => ?_
      exact sub_ok F2 β2 S2 H2 v u x y Q s2 (r1.ext e2) r2 (wSub_mono (fun _ _ z => post_ext (e1.trans e2) z) q2)
    · cases h
  | c, .slice a lo hi, X, Wx, g, e, h => by
    simp only [ckE] at h
    split at h
    · obtain ⟨h, h3⟩ := ba h
      obtain ⟨h1, h2⟩ := ba h
      refine (pe_slice ((sl_list.or sl_tupA).or sl_str) (sndE _ a X Wx g _ h1) (sndOe _ lo X Wx g _ h2) (sndOe _ hi X Wx g _ h3)).weak fun σ H Q ⟨F, β, Γ, S, s, en, q⟩ => ?_
      refine runE (orcE_mono T k cur) s en q (fun _ _ q => q) fun F1 β1 S1 H1 v x e1 s1 r1 q1 => ?_
      refine runO (orcE_mono T k cur) s1 (en.ext e1) q1 (postX_ext e1) fun F2 β2 S2 H2 l e2 s2 q2 => ?_
      refine runO (orcE_mono T k cur) s2 (en.ext (e1.trans e2)) q2 (postX_ext (e1.trans e2)) fun F3 β3 S3 H3 u e3 s3 q3 => ?_
      exact slice_ok s3 (r1.ext (e2.trans e3)) (wSlice_mono (fun _ _ z => post_ext (e1.trans (e2.trans e3)) z) q3)
    · cases h
  | c, .blt f es, X, Wx, g, e, h => by
    simp only [ckE] at h
    split at h
    · rename_i x p e1 es' pos
      obtain ⟨h, hh⟩ := ba h
      have hh : c.hot = false := by simpa using hh
      obtain ⟨h, h4⟩ := ba h
      obtain ⟨h, h3⟩ := ba h
      obtain ⟨h1, h2⟩ := ba h
      have hx := of_decide_eq_true h1
      subst hx
      have hst := ckL_first es e1 es' pos X.env h3
      obtain ⟨r, hr, hs⟩ := blt_ok (X := X) (cA := cA) (g.calm hh) g.u65 f
      refine (blt_call hr (g.gl _ h2) (g.blt _ (by cases f <;> decide)) (sndL _ es X Wx g _ h3) hst.1 hst.2).weak fun σ H Q ⟨F, β, Γ, S, s, en, q⟩ => ?_
      refine runL (orcE_mono T k cur) s en q (fun _ _ q => q) fun F1 β1 S1 H1 vs xs e1 s1 r1 q1 => ?_
      exact hs F1 β1 S1 H1 vs xs Q s1 r1 (wBlt_mono (fun _ _ z => post_ext e1 z) q1)
    · cases h
  | c, .mth m o es, X, Wx, g, e, h => by
    simp only [ckE] at h
    split at h
    · rename_i o' nm apos es' pos
      obtain ⟨h, h6⟩ := ba h
      obtain ⟨h, h5⟩ := ba h
      obtain ⟨h, h4⟩ := ba h
      obtain ⟨h, h3⟩ := ba h
      obtain ⟨h1, h2⟩ := ba h
      have hx := of_decide_eq_true h1
      subst hx
      obtain ⟨r, hr, hs⟩ := mth_ok (X := X) (cA := cA) g.u65 m
      cases es' with
      | nil =>
        refine (mth_call0 hr (sndE _ o X Wx g _ h2) h5 h4 (of_decide_eq_true h6).symm).weak fun σ H Q ⟨F, β, Γ, S, s, en, q⟩ => ?_
        refine runE (orcE_mono T k cur) s en q (fun _ _ q => q) fun F1 β1 S1 H1 v x e1 s1 r1 ⟨z, q1⟩ => ?_
        cases es with
        | nil => exact ⟨mOk_ty s1 r1 z, hs F1 β1 S1 H1 v x [] [] Q s1 r1 rfl (wMth_mono (fun _ _ z => post_ext e1 z) q1)⟩
        | cons _ _ => simp only [ckL] at h3; cases h3
      | cons e0 es' =>
        have hst := ckL_first es e0 es' pos X.env h3
        refine (mth_call hr (sndE _ o X Wx g _ h2) (sndL _ es X Wx g _ h3) h5 h4 (of_decide_eq_true h6) (any_star es _ _ _ h3) hst.1 hst.2).weak fun σ H Q ⟨F, β, Γ, S, s, en, q⟩ => ?_
        refine runE (orcE_mono T k cur) s en q (fun _ _ q => q) fun F1 β1 S1 H1 v x e1 s1 r1 ⟨z, q1⟩ => ?_
        refine ⟨mOk_ty s1 r1 z, ?_⟩
        refine runL (orcE_mono T k cur) s1 (en.ext e1) q1 (postX_ext e1) fun F2 β2 S2 H2 vs xs e2 s2 r2 q2 => ?_
        exact hs F2 β2 S2 H2 v x vs xs Q s2 (r1.ext e2) r2 (wMth_mono (fun _ _ z => post_ext (e1.trans e2) z) q2)
    · cases h
  | c, .comp own elt tg it cond, X, Wx, g, e, h => by
    simp only [ckE] at h
    split at h
    · rename_i elt' tg' it' ifs scope pos
      obtain ⟨h, h6⟩ := ba h
      obtain ⟨h, h5⟩ := ba h
      obtain ⟨h, h4⟩ := ba h
      obtain ⟨h, h3⟩ := ba h
      obtain ⟨h1, h2⟩ := ba h
      obtain ⟨hh, h1⟩ := ba h1
      have hh : c.hot = false := by simpa using hh
      have hblk : BlkOk X.N X.env.scope scope (ownA c.N own) := by
        rw [g.hN, g.sc]; exact blkOk_by h1
      refine (pe_lc (g := liftG X.K cA (tgS tg) fun S v Γ => bindT S tg v Γ) (tt := liftT X.K cA (fun _ _ _ _ => False) (fun Γ S P _ => WT0 (orcE T k cur) cond Γ S P)) (te := liftE X.K cA (fun _ _ _ _ => False) (W (orcE T k cur) elt)) (g.calm hh) g.nd (sndI _ it X Wx g _ _ h2) hblk (fun s H C cl fp => sndG tg _ (g.inn hblk.kind s H C cl fp hh).hN g.nd (g.inn hblk.kind s H C cl fp hh).loc (g.calm hh) _ h3)
        (fun s H C cl fp => sndT0 _ cond _ _ (g.inn hblk.kind s H C cl fp hh) _ h5) (fun s H C cl fp => sndE _ elt _ _ (g.inn hblk.kind s H C cl fp hh) _ h6) (ckI_fold h2 X.env)).weak fun σ H Q ⟨F, β, Γ, S, s, en, q⟩ => ?_
      refine runI (orcE_mono T k cur) s en q (fun _ _ q => q) fun F1 β1 S1 H1 J xs G e1 s1 i1 q1 => ?_
      rw [ownA_ix]
      exact comp_ok (orcE_mono T k cur) e1 s1 (en.ext e1) i1 q1 (fun i hi => by have := List.all_eq_true.mp h4 i hi; simpa using this)
    · cases h
  | c, .lck m, X, Wx, g, e, h => by
    simp only [ckE] at h
    refine (pe_lock (sndE _ m X Wx g _ h)).weak fun σ H Q ⟨F, β, Γ, S, s, en, kk, kvs, hk, q⟩ => ?_
    obtain ⟨a, ha, fa, ys, e2, qq⟩ := s.at hk
    refine ⟨a, .dK ys, e2, trivial, fun od => ?_⟩
    obtain ⟨s1, sb⟩ := s.lock (od := od) (lt_of_get hk) ha fa qq (by rw [e2]; simp)
    have x1 : Ext F β (upd F a (.frz od (.dK ys))) β := ⟨sb, List.prefix_refl _⟩
    refine runE (orcE_mono T k cur) s1 (en.ext x1) q (fun _ _ z => z.elim) fun F2 β2 S2 H2 v x e3 s2 r2 ⟨h3, q3⟩ => ?_
    have f2 := e3.sub a _ upd_same
    obtain ⟨s3, kf⟩ := s2.unlock h3 (pre_get e3.pre ha) f2
    have x3 : Ext F β (dropF F2 a) β2 := ext_drop fa (x1.trans e3)
    exact ⟨s2.sub a _ f2, q3 _ _ _ _ x3 s3 (VR.unf kf _ _ r2)⟩
  | c, .fld o f, X, Wx, g, e, h => by
    simp only [ckE] at h
    split at h
    · obtain ⟨h, h3⟩ := ba h
      obtain ⟨h1, h2⟩ := ba h
      have hx := of_decide_eq_true h1
      subst hx
      refine (pe_fld (sndE _ o X Wx g _ h2) (plainB_ok h3 _ _ _)).weak fun σ H Q ⟨F, β, Γ, S, s, en, q⟩ => ?_
      refine runE (orcE_mono T k cur) s en q (fun _ _ q => q) fun F1 β1 S1 H1 v x e1 s1 r1 ⟨n, ev, ob, h0, u, hu, q1⟩ => ?_
      subst ev
      obtain ⟨c', fs, rfl, hn, hl⟩ := fldO_ok hu
      obtain ⟨hc, hn⟩ := g.noat _ (noat_mem hn)
      obtain ⟨a, dx, ys, rfl, _, _, e2, qq⟩ := ins_ok s1 h0 r1
      obtain ⟨y, hy, ry⟩ := qq.get.1 u hl
      exact ⟨a, _, dx, ys, y, rfl, e2, hc, hn, hy, post_here s1 ry (post_ext e1 q1)⟩
    · cases h
  | c, .evens a, X, Wx, g, e, h => by
    simp only [ckE] at h
    split at h
    · obtain ⟨h1, h2⟩ := ba h
      have ej := of_decide_eq_true h2
      subst ej
      refine (pe_evens (sndE _ a X Wx g _ h1)).weak fun σ H Q ⟨F, β, Γ, S, s, en, q⟩ => ?_
      refine runE (orcE_mono T k cur) s en q (fun _ _ q => q) fun F1 β1 S1 H1 v x e1 s1 r1 ⟨xs, hl, q1⟩ => ?_
      obtain ⟨b, ys, rfl, hb, qq⟩ := hl.ok s1 r1
      exact ⟨b, ys, rfl, SqL.of hb, post_new s1 qq.evens (post_ext e1 q1)⟩
    · cases h
  | c, .callv i es, X, Wx, g, e, h => by
    simp only [ckE] at h
    split at h
    · rename_i x p es' pos
      obtain ⟨h, hh⟩ := ba h
      have hh : c.hot = false := by simpa using hh
      obtain ⟨h, h3⟩ := ba h
      obtain ⟨h1, h2⟩ := ba h
      refine ⟨fun pins s σ H Q I ⟨F, β, Γ, S, si, en, z, ws, hz, hm, q⟩ => ?_⟩
      obtain ⟨x0, ex, e1, eC, rw⟩ := en.get hz
      subst e1
      obtain ⟨hF, hclo⟩ := g.clo z hm
      have hd1 : (x == ("__debug__" : Str)) = false := by have := (ba (ba h2).1).2; simpa using this
      have hd2 : (x == ("__classdict__" : Str)) = false := by have := (ba h2).2; simpa using this
      refine wpAny_Call_Name_kw (thn ((pe_var (pos := p) (i := i) (by rw [g.hN]; exact of_decide_eq_true h1) (g.vis _ h2) hd1 hd2).run pins s σ H (fun v H1 => v = .ref z.f ∧ H1 = H) I ⟨.ref z.f, ex, rfl, rfl⟩) fun u s1 ⟨v, H1, I1, r1, q1⟩ => ?_)
      obtain ⟨ev, eH⟩ := q1
      subst ev
      rw [eH] at I1
      obtain rfl : u = Value.ref z.f := r1
      have fnAt : ∀ {H2 : Hp} {s2 : Shared}, Inv X pins σ H2 s2 → PySem.W.FnAt z.f s2.heap := fun I2 => by
        obtain ⟨oc, od, fd, sl, ho⟩ := hF
        exact ⟨oc, od, fd, sl, I2.bk _ _ ho⟩
      have run : ∀ (us : List Value) (s2 : Shared) (vs : List Va) (xs : List V) (F1 : Hp) (β1 : List Addr) (S1 : Sto) (H2 : Hp), Inv X pins σ H2 s2 → Ext F β F1 β1 → Sim X.K cA F1 β1 S1 H2 → VRs X.K F1 β1 vs xs → Vals xs us → (orcE T k cur).run z.id (vs ++ ws) S1 (post X.K cA F β Q) (postX X.K cA F β Wx σ) →
          wpAny (model X.prog X.w) X.A (PySem.call (.ref z.f) us) (EP X pins σ Q) X.xe s2 := by
        intro us s2 vs xs F1 β1 S1 H2 I2 e2 s3 r2 rv q2
        refine wpAny_call (codeAny_mono (hclo X.A X.stack s2 H2 us xs Q (WE Wx σ) ((g.room hh).mono (by omega)) I2.env0 (s3.sub _ _ (e2.sub _ _ eC)) rv ⟨F1, β1, S1, vs ++ ws, s3, VRs.append r2 (rw.ext e2), ?_⟩) fun r s' hq => ?_)
        · exact (orcE_mono T k cur).run _ _ _ _ _ _ _ (fun _ _ z => post_ext e2 z) (fun c' S' z => postX_ext e2 c' S' z) q2
        · cases r with
          | error e => exact passAt g.tk σ pins H2 s2 e s' I2 hq
          | ok fl =>
            cases fl with
            | ret u => exact I2.after hq
            | next => exact False.elim hq
            | brk => exact False.elim hq
            | cont => exact False.elim hq
      cases es' with
      | nil =>
        refine PySem.W.callWith_F0 (first := []) (fnAt I1) ?_
        cases es with
        | nil => exact run [] s1 [] [] F β S H I1 (Ext.refl _ _) si rfl .nil q
        | cons _ _ => simp only [ckL] at h3; cases h3
      | cons e0 es' =>
        have hst := ckL_first es e0 es' pos X.env h3
        refine PySem.W.callWith_F (first := []) (fnAt I1) (thn ((sndL _ es X Wx g _ h3).run pos pins s1 σ H (fun xs H2 => ∃ F1 β1 S1 vs, Ext F β F1 β1 ∧ Sim X.K cA F1 β1 S1 H2 ∧ VRs X.K F1 β1 vs xs ∧ (orcE T k cur).run z.id (vs ++ ws) S1 (post X.K cA F β Q) (postX X.K cA F β Wx σ)) I1 ?_) fun us s2 ⟨xs, H2, I2, rv, F1, β1, S1, vs, e2, s3, r2, q2⟩ => ⟨fnAt I2, run us s2 vs xs F1 β1 S1 H2 I2 e2 s3 r2 rv q2⟩) hst.1 hst.2
        exact runL (orcE_mono T k cur) si en q (fun _ _ q => q) fun F1 β1 S1 H1 vs xs e1 s1 r1 q1 => ⟨F1, β1, S1, vs, e1, s1, r1, q1⟩
    · cases h
  | c, .callc f es id q js, X, Wx, g, e, h => by
    simp only [ckE] at h
    split at h
    · rename_i x p es' pos
      obtain ⟨h, hlm⟩ := ba h
      obtain ⟨h, hh⟩ := ba h
      have hh : c.hot = false := by simpa using hh
      obtain ⟨h, h4⟩ := ba h
      obtain ⟨h, h3⟩ := ba h
      obtain ⟨h1, h2⟩ := ba h
      have hx := of_decide_eq_true h1
      subst hx
      obtain ⟨e1, er, rfl, c1, c2⟩ := ckLc_first es es' pos X.env h3
      refine ⟨fun pins s σ H Q I ⟨F, β, Γ, S, si, en, ws, hws, w⟩ => ?_⟩
      obtain ⟨xw, rw, exw⟩ := caps_ok en hws
      obtain ⟨d, a, fd, hd, hm, hk, hb, hF⟩ := g.fn x (by simpa using h4)
      refine wpAny_Call_Name_kw (ld_glob I (g.gl _ h2) hm (PySem.W.callWith_K (h₀ := X.base) I.ok.mod.kin hk ?_ c1 c2) (by have := (ba (ba h2).1).2; simpa using this))
      refine sndLc c id js es X Wx g _ h3 pos pins s σ H _ F β Γ S _ _ I si en w (fun _ _ q => q) fun params body scope lpos hck F1 β1 S1 H1 vs xs us s1 e1 s3 r1 I1 rv ⟨ht, hz⟩ => ?_
      refine lam_hand g hck hlm I1 s3 ht exw fun z H2 s2 F2 base ez ex I2 e2 s4 hc e0 hup _ => ⟨I2.kIn, ?_⟩
      obtain ⟨d', a', fd', hd', hm', _, hb', hF'⟩ := hup.1 x (by simpa using h4)
      rw [hm] at hm'; cases hm'
      exact run_hand hF' ((g.room hh).mono (by omega)) hb' (passAt g.tk σ) I2 e0 (us := us ++ [Value.ref z.f]) (xs := xs ++ [V.ref z.f]) (rv.append (Paired.cons (show L2.RelV (V.ref z.f) (Value.ref z.f) from rfl) .nil)) ⟨F2, β1, S1, vs ++ [.fnv z ws], s4, VRs.append (r1.ext e2) (VRs.one (v := .fnv z ws) ⟨rfl, hc, by rw [ex]; exact rw.ext (e1.trans e2)⟩), (orcE_mono T k cur).runC _ _ _ _ _ _ _ _ (fun _ _ z => post_ext (e1.trans e2) z) (fun c' S' z => postX_ext (e1.trans e2) c' S' z) (hz z ez)⟩
    · cases h
  | c, .mcallc o m es id q js, X, Wx, g, e, h => by
    simp only [ckE] at h
    split at h
    · rename_i o' nm apos es' pos
      obtain ⟨h, hlm⟩ := ba h
      obtain ⟨h, hh⟩ := ba h
      have hh : c.hot = false := by simpa using hh
      obtain ⟨h, h6⟩ := ba h
      obtain ⟨h, h5⟩ := ba h
      obtain ⟨h, h4⟩ := ba h
      obtain ⟨h, h3⟩ := ba h
      obtain ⟨h1, h2⟩ := ba h
      have hx := of_decide_eq_true h1
      subst hx
      obtain ⟨e1, er, rfl, c1, c2⟩ := ckLc_first es es' pos X.env h3
      refine ⟨fun pins s σ H Q I ⟨F, β, Γ, S, si, en, ws, hws, w⟩ => ?_⟩
      obtain ⟨xw, rw, exw⟩ := caps_ok en hws
      refine PySem.W.methodCall_KW (pl := _) (thn ((sndE c o X Wx g _ h2).run pins s σ H (fun x H1 => ∃ F1 β1 S1 v, Ext F β F1 β1 ∧ Sim X.K cA F1 β1 S1 H1 ∧ VR X.K F1 β1 v x ∧ ∃ n, v = .loc n ∧ ∃ ob, S1[n]? = some ob ∧ ∃ key, mkey (orcE T k cur) nm ob = some key ∧ WL (orcE T k cur) es Γ S1 (fun vs S2 => hasTab S2 q ∧ ∀ z : Clo, z.id = id → (orcE T k cur).runC z key (v :: vs ++ [.fnv z ws]) S2 (post X.K cA F β Q) (postX X.K cA F β Wx σ)) (postX X.K cA F β Wx σ)) I ?_) fun w0 s1 ⟨y, H1, I1, ry, F1, β1, S1, v, e1', s3, r1, n, ev, ob, h0, ky, hk, q1⟩ => ?_) (mcall_eq h4 h5 (few_ok (by rw [c1]; simpa [backTo] using c2) (of_decide_eq_true h6)))
      · exact runE (orcE_mono T k cur) si en w (fun _ _ q => q) fun F1 β1 S1 H1 v x e1 s1 r1 ⟨n, ev, ob, h0, ky, hk, q1⟩ => ⟨F1, β1, S1, v, e1, s1, r1, n, ev, ob, h0, ky, hk, q1⟩
      · subst ev
        obtain ⟨c', fs, rfl, hn, hl⟩ := mkey_ok hk
        obtain ⟨hc, d, fa, fd, hd, hM, hB, hF⟩ := g.meth _ (meth_mem hl)
        obtain ⟨a, dx, ys, rfl, tt, _, e2, qq⟩ := ins_ok s3 h0 r1
        cases ry
        refine getmeth_ok I1 e2 hc hM (qq.get.2 hn) (PySem.W.callWith_K (first := [.ref a]) (h₀ := X.base) I.ok.mod.kin hM.kp ?_ c1 c2)
        refine sndLc c id js es X Wx g _ h3 pos pins s1 σ H1 _ F1 β1 Γ S1 _ _ I1 s3 (en.ext e1') q1 (postX_ext e1') fun params body scope lpos hck F2 β2 S2 H2 vs xs us s2 e3 s4 r2 I2 rv ⟨ht, hz⟩ => ?_
        refine lam_hand g hck hlm I2 s4 ht exw fun z H3 s5 F3 base ez ex I3 e4 s6 hc3 e0 hup _ => ⟨I3.kIn, ?_⟩
        obtain ⟨_, d', a', fd', hd', hM', hb', hF'⟩ := hup.2 _ (meth_mem hl)
        have ea : a' = fa := by
          have := hM'.at_.symm.trans hM.at_
          simpa using this
        subst ea
        have e5 := (e1'.trans e3).trans e4
        exact run_hand hF' ((g.room hh).mono (by omega)) hb' (passAt g.tk σ) I3 e0 (us := Value.ref a :: (us ++ [Value.ref z.f])) (xs := V.ref a :: (xs ++ [V.ref z.f])) (Paired.cons (show L2.RelV (V.ref a) (Value.ref a) from rfl) (rv.append (Paired.cons (show L2.RelV (V.ref z.f) (Value.ref z.f) from rfl) .nil))) ⟨F3, β2, S2, .loc n :: (vs ++ [.fnv z ws]), s6, VRs.mk (v := .loc n) ⟨a, rfl, pre_get e3.pre tt⟩ (VRs.append (r2.ext e4) (VRs.one (v := .fnv z ws) ⟨rfl, hc3, by rw [ex]; exact rw.ext e5⟩)), (orcE_mono T k cur).runC _ _ _ _ _ _ _ _ (fun _ _ z => post_ext e5 z) (fun c' S' z => postX_ext e5 c' S' z) (show (orcE T k cur).runC z ky (Va.loc n :: (vs ++ [Va.fnv z ws])) S2 _ _ from hz z ez)⟩
    · cases h
  | c, .mcall o m es, X, Wx, g, e, h => by
    simp only [ckE] at h
    split at h
    · rename_i o' nm ap es' pos
      obtain ⟨h, hh⟩ := ba h
      have hh : c.hot = false := by simpa using hh
      obtain ⟨h, h6⟩ := ba h
      obtain ⟨h, h5⟩ := ba h
      obtain ⟨h, h4⟩ := ba h
      obtain ⟨h, h3⟩ := ba h
      obtain ⟨h1, h2⟩ := ba h
      have hx := of_decide_eq_true h1
      subst hx
      have key : ∀ (t : TA), (∀ {σ : St} {F : Hp} {β : List Addr} {Γ : Env} {S : Sto} {H : Hp} {R : PL} {E0 : PX} {Q1 : List V → Hp → Prop}, Sim X.K cA F β S H → EnvR X.K F β Γ σ → WL (orcE T k cur) es Γ S R E0 → (∀ c S, E0 c S → postX X.K cA F β Wx σ c S) →
          (∀ F' β' S1 H1 v x, Ext F β F' β' → Sim X.K cA F' β' S1 H1 → VRs X.K F' β' v x → R v S1 → Q1 x H1) → t σ H Q1) → ∀ σ H Q, liftE X.K cA Wx (W (orcE T k cur) (.mcall o nm es)) σ H Q →
          tMethD X (L2.CX X.prog X.w) (2 * k) (WE Wx) nm (liftE X.K cA Wx (W (orcE T k cur) o)) t σ H Q := by
        rintro t ht σ H Q ⟨F, β, Γ, S, s, en, q⟩
        refine runE (orcE_mono T k cur) s en q (fun _ _ q => q) fun F1 β1 S1 H1 v x e1 s1 r1 ⟨n, ev, ob, h0, ky, hk, q1⟩ => ?_
        subst ev
        obtain ⟨c', fs, rfl, hn, hl⟩ := mkey_ok hk
        obtain ⟨hc, d, fa, fd, hd, hM, hB, hF⟩ := g.meth _ (meth_mem hl)
        obtain ⟨a, dx, ys, rfl, tt, _, e2, qq⟩ := ins_ok s1 h0 r1
        refine ⟨a, _, dx, ys, fa, fd, d.ps, _, rfl, e2, qq.get.2 hn, hc, hM, hB, hF, ?_⟩
        refine ht s1 (en.ext e1) q1 (postX_ext e1) fun F2 β2 S2 H2 vs xs e2 s2 r2 q2 => ?_
        exact ⟨F2, β2, S2, .loc n :: vs, s2, VRs.mk (v := .loc n) ⟨a, rfl, pre_get e2.pre tt⟩ r2, (orcE_mono T k cur).run _ _ _ _ _ _ _ (fun _ _ z => post_ext (e1.trans e2) z) (fun c' S' z => postX_ext (e1.trans e2) c' S' z) q2⟩
      cases es' with
      | nil =>
        refine (pe_mcall0 (E := WE Wx) ((g.room hh).mono (by omega)) (fun σ => passAt g.tk σ) h4 h5 (sndE _ o X Wx g _ h2)).weak (key _ ?_)
        intro σ F β Γ S H R E0 Q1 s en w hE hh
        cases es with
        | nil => exact hh F β S H [] [] (Ext.refl _ _) s rfl w
        | cons _ _ => simp only [ckL] at h3; cases h3
      | cons e0 es' =>
        have hst := ckL_first es e0 es' pos X.env h3
        exact (pe_mcall (E := WE Wx) ((g.room hh).mono (by omega)) (fun σ => passAt g.tk σ) h4 h5 (of_decide_eq_true h6) (any_star es _ _ _ h3) (sndE _ o X Wx g _ h2) (sndL _ es X Wx g _ h3) hst.1 hst.2).weak (key _ fun s en w hE hh => runL (orcE_mono T k cur) s en w hE hh)
    · cases h
  | c, .make x es, X, Wx, g, e, h => by
    simp only [ckE] at h
    split at h
    · rename_i y p es' pos
      obtain ⟨h, hh⟩ := ba h
      have hh : c.hot = false := by simpa using hh
      obtain ⟨h, h3⟩ := ba h
      obtain ⟨h1, h2⟩ := ba h
      have hx := of_decide_eq_true h1
      subst hx
      have hdb : (y == ("__debug__" : Str)) = false := by have := (ba (ba h2).1).2; simpa using this
      cases hi : T.init y with
      | none =>
        refine ⟨fun pins s σ H Q I ⟨F, β, Γ, S, si, en, ky, e1, q⟩ => ?_⟩
        rw [show (orcE T k cur).init y = T.init y from rfl, hi] at e1
        cases e1
      | some oo =>
        obtain ⟨hm, kp, hh⟩ := g.init _ (lk_mem hi)
        cases oo with
        | none =>
          refine ⟨fun pins s σ H Q I ⟨F, β, Γ, S, si, en, ky, e1, q⟩ => ?_⟩
          rw [show (orcE T k cur).init y = T.init y from rfl, hi] at e1
          cases e1
        | some ky =>
          obtain ⟨d, fa, fd, hd, M, hB, hF⟩ := hh
          have fin : ∀ (σ : St) (Q : VK) {F : Hp} {β : List Addr} {S : Sto} {H : Hp} {vs : List Va} {xs : List V}, Sim X.K cA F β S H → VRs X.K F β vs xs →
              call T k ky (.loc S.length :: vs) (S ++ [.ins y []]) (fun v S2 => v = .non ∧ post X.K cA F β Q (.loc S.length) S2) (postX X.K cA F β Wx σ) → spMk (cA y) (spI X.K cA (orc T k) ky) xs H Q (WE Wx σ) := by
            intro σ Q F β S H vs xs s r w a dx ha hdx ne
            obtain ⟨F2, e2, s2⟩ := new_ins s y ha hdx ne
            have hat : (β ++ [a])[S.length]? = some a := by rw [← s.len]; simp
            refine ⟨F2, β ++ [a], _, .loc S.length :: vs, s2, VRs.mk (v := .loc S.length) ⟨a, rfl, hat⟩ (r.ext e2), (orcE_mono T k cur).run _ _ _ _ _ _ _ (fun v S2 z => ?_) (fun c' S' z => postX_ext e2 c' S' z) w⟩
            intro F3 β3 H3 u e3 s3 r3
            obtain ⟨z1, z2⟩ := z
            subst z1
            exact ⟨r3, z2 F3 β3 H3 _ (e2.trans e3) s3 ⟨a, rfl, pre_get e3.pre hat⟩⟩
          cases es' with
          | nil =>
            refine (pe_makeS0 (E := WE Wx) M hF (g.room hh) (g.gl _ h2) hm hB (fun σ => passAt g.tk σ) hdb).weak fun σ H Q ⟨F, β, Γ, S, s, en, ky', e1, q⟩ => ?_
            rw [show (orcE T k cur).init y = T.init y from rfl, hi] at e1
            cases e1
            cases es with
            | nil => exact fin σ Q s (show VRs X.K F β [] [] from rfl) q
            | cons _ _ => simp only [ckL] at h3; cases h3
          | cons e0 es' =>
            have hst := ckL_first es e0 es' pos X.env h3
            refine (pe_makeS (E := WE Wx) M hF (g.room hh) (g.gl _ h2) hm hB (fun σ => passAt g.tk σ) (sndL _ es X Wx g _ h3) hdb hst.1 hst.2).weak fun σ H Q ⟨F, β, Γ, S, s, en, ky', e1, q⟩ => ?_
            rw [show (orcE T k cur).init y = T.init y from rfl, hi] at e1
            cases e1
            refine runL (orcE_mono T k cur) s en q (fun _ _ q => q) fun F1 β1 S1 H1 vs xs e1 s1 r1 q1 => ?_
            exact fin σ Q s1 r1 ((orcE_mono T k cur).run _ _ _ _ _ _ _ (fun v S2 z => ⟨z.1, post_ext e1 z.2⟩) (fun c' S' z => postX_ext e1 c' S' z) q1)
    · cases h
  | c, .make0 x, X, Wx, g, e, h => by
    simp only [ckE] at h
    split at h
    · rename_i y p pos
      obtain ⟨h, hh⟩ := ba h
      have hh : c.hot = false := by simpa using hh
      obtain ⟨h1, h2⟩ := ba h
      have hx := of_decide_eq_true h1
      subst hx
      have hdb : (y == ("__debug__" : Str)) = false := by have := (ba (ba h2).1).2; simpa using this
      cases hi : T.init y with
      | none =>
        refine ⟨fun pins s σ H Q I ⟨F, β, Γ, S, si, en, e1, q⟩ => ?_⟩
        rw [show (orcE T k cur).init y = T.init y from rfl, hi] at e1
        cases e1
      | some oo =>
        obtain ⟨hm, kp, hh⟩ := g.init _ (lk_mem hi)
        cases oo with
        | some ky =>
          refine ⟨fun pins s σ H Q I ⟨F, β, Γ, S, si, en, e1, q⟩ => ?_⟩
          rw [show (orcE T k cur).init y = T.init y from rfl, hi] at e1
          cases e1
        | none =>
          obtain ⟨h5, h6, h7⟩ := hh
          refine (pe_makeO kp h5 h6 h7 (g.gl _ h2) hm hdb).weak fun σ H Q ⟨F, β, Γ, S, s, en, e1, q⟩ a dx ha hdx ne => ?_
          obtain ⟨F2, e2, s2⟩ := new_ins s y ha hdx ne
          exact q F2 _ _ _ e2 s2 ⟨a, rfl, by rw [← s.len]; simp⟩
    · cases h
  | c, .dsp es, X, Wx, g, e, h => by
    simp only [ckE] at h
    split at h
    · rename_i ks vs pos
      obtain ⟨h1, h2⟩ := ba h
      have h15 := of_decide_eq_true h2
      match es, ks, vs, h1 with
      | .nil, [], [], _ =>
        exact pe_dnewK.weak fun σ H Q ⟨F, β, Γ, S, s, en, kvs, e1, e2, e3, q⟩ => by
          cases e1
          have e4 : (S ++ [Ob.dct []]).set S.length (.dct (mergeA [] [])) = S ++ [.dct []] := by
            rw [List.set_append_right _ _ (Nat.le_refl _), Nat.sub_self]; rfl
          rw [e4] at q
          exact post_dct s (show VRk X.K F β [] [] from rfl) q
      | .nil, [], _ :: _, h1 => simp [ckP] at h1
      | .nil, _ :: _, _, h1 => simp [ckP] at h1
      | .cons m1 r1, ks, vs, h1 =>
        obtain ⟨trs, hp, hsnd⟩ := sndP _ (.cons m1 r1) X Wx g ks vs pos h1
        obtain ⟨z1, z2⟩ := ckP_len (.cons m1 r1) ks vs h1
        have z3 : ks ≠ [] := by
          rintro rfl
          cases r1 <;> simp [ckP] at h1
        refine (pe_disp hp z1 z2 z3 h15).weak fun σ H Q ⟨F, β, Γ, S, s, en, q⟩ a ha => ?_
        have s2 := s.new ha (o := .dct []) (u := .dK []) ⟨[], upd_same, rfl⟩
        have e2 : Ext F β F (β ++ [a]) := ⟨Same.refl _, List.prefix_append _ _⟩
        have hat : (β ++ [a])[S.length]? = some a := by rw [← s.len]; simp
        refine hsnd s2 (en.ext e2) q (fun c' S' z => postX_ext e2 c' S' z) fun F3 β3 S3 H3 ws ps e3 s3 rp ⟨kvs, hk, hl, hd, q3⟩ => ?_
        obtain ⟨kys, k1, k2⟩ := rp kvs hk
        have k3 := k2.len
        obtain ⟨a2, ys2, ea2, ta2, _, ed2, q5⟩ := dct_ok s3 hd (x := .ref a) ⟨a, rfl, pre_get e3.pre hat⟩
        cases ea2
        have e5 : ys2 = [] := q5
        subst e5
        refine ⟨ed2, kys, k1, by omega, ?_⟩
        exact q3 F3 β3 _ _ (e2.trans e3) (put_dct s3 hd ta2 (k2.merge (show VRk X.K F3 β3 [] [] from rfl))) ⟨a, rfl, pre_get e3.pre hat⟩
    · cases h
  | c, .get1 o m, X, Wx, g, e, h => by
    simp only [ckE] at h
    split at h
    · obtain ⟨h, h6⟩ := ba h
      obtain ⟨h, h5⟩ := ba h
      obtain ⟨h, h4⟩ := ba h
      obtain ⟨h, h3⟩ := ba h
      obtain ⟨h1, h2⟩ := ba h
      have hx := of_decide_eq_true h1
      subst hx
      refine (pe_dget1 (by have := g.u65; omega) (sndE _ o X Wx g _ h2) (sndE _ m X Wx g _ h3) (m1_ok h5 h6 h4)).weak fun σ H Q ⟨F, β, Γ, S, s, en, q⟩ => ?_
      refine runE (orcE_mono T k cur) s en q (fun _ _ q => q) fun F1 β1 S1 H1 v x e1 s1 r1 ⟨⟨kvs0, hd0⟩, q1⟩ => ?_
      obtain ⟨a, ys, rfl, ed, _⟩ := hd0.ok s1 r1
      refine ⟨a, rfl, .inl ⟨ys, Rd.of ed⟩, ?_⟩
      refine runE (orcE_mono T k cur) s1 (en.ext e1) q1 (postX_ext e1) fun F2 β2 S2 H2 u y e2 s2 r2 ⟨kvs, hd, kk, hk, q2⟩ => ?_
      obtain ⟨a', ys', ea, ed', qq⟩ := hd.ok s2 (r1.ext e2)
      cases ea
      obtain ⟨v1, v2⟩ := qq.val kk
      refine ⟨valV ys' kk, by rw [kV_keyV hk r2]; exact .k ed', ?_⟩
      cases hg : dget kvs kk with
      | none => rw [v2 hg]; rw [hg] at q2; exact post_here (v := .non) s2 rfl (post_ext (e1.trans e2) q2)
      | some z => obtain ⟨w, e5, rw'⟩ := v1 z hg; rw [e5]; rw [hg] at q2; exact post_here s2 rw' (post_ext (e1.trans e2) q2)
    · cases h
  | c, .get2 o m d, X, Wx, g, e, h => by
    simp only [ckE] at h
    split at h
    · obtain ⟨h, h8⟩ := ba h
      obtain ⟨h, h7⟩ := ba h
      obtain ⟨h, h6⟩ := ba h
      obtain ⟨h, h5⟩ := ba h
      obtain ⟨h, h4⟩ := ba h
      obtain ⟨h, h3⟩ := ba h
      obtain ⟨h1, h2⟩ := ba h
      have hx := of_decide_eq_true h1
      subst hx
      refine (pe_dget2 (by have := g.u65; omega) (sndE _ o X Wx g _ h2) (sndE _ m X Wx g _ h3) (sndE _ d X Wx g _ h7) (m2_ok h5 h6 h8 h4)).weak fun σ H Q ⟨F, β, Γ, S, s, en, q⟩ => ?_
      refine runE (orcE_mono T k cur) s en q (fun _ _ q => q) fun F1 β1 S1 H1 v x e1 s1 r1 ⟨⟨kvs0, hd0⟩, q1⟩ => ?_
      obtain ⟨a, ys, rfl, ed, _⟩ := hd0.ok s1 r1
      refine ⟨a, rfl, .inl ⟨ys, Rd.of ed⟩, ?_⟩
      refine runE (orcE_mono T k cur) s1 (en.ext e1) q1 (postX_ext e1) fun F2 β2 S2 H2 u y e2 s2 r2 q2 => ?_
      refine runE (orcE_mono T k cur) s2 (en.ext (e1.trans e2)) q2 (postX_ext (e1.trans e2)) fun F3 β3 S3 H3 w z e3 s3 r3 ⟨kvs, hd, kk, hk, q3⟩ => ?_
      obtain ⟨a', ys', ea, ed', qq⟩ := hd.ok s3 (r1.ext (e2.trans e3))
      cases ea
      obtain ⟨v1, v2⟩ := qq.val kk
      refine ⟨valV ys' kk, by rw [kV_keyV hk (r2.ext e3)]; exact .k ed', ?_⟩
      cases hg : dget kvs kk with
      | none => rw [v2 hg]; rw [hg] at q3; exact post_here s3 r3 (post_ext (e1.trans (e2.trans e3)) q3)
      | some z => obtain ⟨w, e5, rw'⟩ := v1 z hg; rw [e5]; rw [hg] at q3; exact post_here s3 rw' (post_ext (e1.trans (e2.trans e3)) q3)
    · cases h
  | c, .gget x m d, X, Wx, g, e, h => by
    simp only [ckE] at h
    split at h
    · obtain ⟨h, h9⟩ := ba h
      obtain ⟨h, h8⟩ := ba h
      obtain ⟨h, h7⟩ := ba h
      obtain ⟨h, h6⟩ := ba h
      obtain ⟨h, h5⟩ := ba h
      obtain ⟨h, h4⟩ := ba h
      obtain ⟨h, h3⟩ := ba h
      obtain ⟨h1, h2⟩ := ba h
      have hx := of_decide_eq_true h1
      subst hx
      have hy := of_decide_eq_true h2
      subst hy
      refine (pe_kget2 (g.gl _ h3) (by have := (ba (ba h3).1).2; simpa using this) (sndE _ m X Wx g _ h4) (sndE _ d X Wx g _ h8) (m2_ok h6 h7 h9 h5)).weak fun σ H Q ⟨F, β, Γ, S, s, en, l, hl, q⟩ => ?_
      obtain ⟨A, es, n, e1, D, hq⟩ := g.gdc _ (lk_mem hl)
      refine ⟨A, es, n, e1, D, ?_⟩
      refine runE (orcE_mono T k cur) s en q (fun _ _ q => q) fun F1 β1 S1 H1 v x e1 s1 r1 q1 => ?_
      refine runE (orcE_mono T k cur) s1 (en.ext e1) q1 (postX_ext e1) fun F2 β2 S2 H2 u y e2 s2 r2 ⟨w, ew, o, ho, q2⟩ => ?_
      subst ew
      obtain ⟨r, hr1, hr2⟩ := hq _ (lk_mem ho)
      refine ⟨w, r, r1, hr1, ?_⟩
      cases o with
      | none => exact .inl ⟨hr2, post_here s2 r2 (post_ext (e1.trans e2) q2)⟩
      | some z =>
        obtain ⟨u', y', e5, rv, hvr⟩ := hr2
        exact .inr ⟨u', y', e5, rv, post_here s2 (hvr _ _) (post_ext (e1.trans e2) q2)⟩
    · cases h
  | c, .dpop1 o m, X, Wx, g, e, h => by
    simp only [ckE] at h
    split at h
    · obtain ⟨h, h6⟩ := ba h
      obtain ⟨h, h5⟩ := ba h
      obtain ⟨h, h4⟩ := ba h
      obtain ⟨h, h3⟩ := ba h
      obtain ⟨h1, h2⟩ := ba h
      have hx := of_decide_eq_true h1
      subst hx
      refine (pe_dpop1 (sndE _ o X Wx g _ h2) (sndE _ m X Wx g _ h3) (m1_ok h5 h6 h4)).weak fun σ H Q ⟨F, β, Γ, S, s, en, q⟩ => ?_
      refine runE (orcE_mono T k cur) s en q (fun _ _ q => q) fun F1 β1 S1 H1 v x e1 s1 r1 ⟨⟨kvs0, hd0⟩, q1⟩ => ?_
      obtain ⟨a, ys, rfl, ed, _⟩ := hd0.ok s1 r1
      refine ⟨a, rfl, .inl ⟨ys, Rd.of ed⟩, ?_⟩
      refine runE (orcE_mono T k cur) s1 (en.ext e1) q1 (postX_ext e1) fun F2 β2 S2 H2 u y e2 s2 r2 ⟨n, en', kvs, hn, kk, hk, w, hw, q2⟩ => ?_
      subst en'
      obtain ⟨a', ys', ea, ta, _, ed', qq⟩ := dct_ok s2 hn (r1.ext e2)
      cases ea
      obtain ⟨z, hz, rz⟩ := (qq.val kk).1 w hw
      exact ⟨ys', kk, z, ed', kV_keyV hk r2, hz, post_here (put_dct s2 hn ta qq.drop) rz (post_ext (e1.trans e2) q2)⟩
    · cases h
  | c, .dpop2 o m d, X, Wx, g, e, h => by
    simp only [ckE] at h
    split at h
    · obtain ⟨h, h8⟩ := ba h
      obtain ⟨h, h7⟩ := ba h
      obtain ⟨h, h6⟩ := ba h
      obtain ⟨h, h5⟩ := ba h
      obtain ⟨h, h4⟩ := ba h
      obtain ⟨h, h3⟩ := ba h
      obtain ⟨h1, h2⟩ := ba h
      have hx := of_decide_eq_true h1
      subst hx
      refine (pe_dpop2 (sndE _ o X Wx g _ h2) (sndE _ m X Wx g _ h3) (sndE _ d X Wx g _ h7) (m2_ok h5 h6 h8 h4)).weak fun σ H Q ⟨F, β, Γ, S, s, en, q⟩ => ?_
      refine runE (orcE_mono T k cur) s en q (fun _ _ q => q) fun F1 β1 S1 H1 v x e1 s1 r1 ⟨⟨kvs0, hd0⟩, q1⟩ => ?_
      obtain ⟨a, ys, rfl, ed, _⟩ := hd0.ok s1 r1
      refine ⟨a, rfl, .inl ⟨ys, Rd.of ed⟩, ?_⟩
      refine runE (orcE_mono T k cur) s1 (en.ext e1) q1 (postX_ext e1) fun F2 β2 S2 H2 u y e2 s2 r2 q2 => ?_
      refine runE (orcE_mono T k cur) s2 (en.ext (e1.trans e2)) q2 (postX_ext (e1.trans e2)) fun F3 β3 S3 H3 w z e3 s3 r3 ⟨n, en', kvs, hn, kk, hk, q3⟩ => ?_
      subst en'
      obtain ⟨a', ys', ea, ta, _, ed', qq⟩ := dct_ok s3 hn (r1.ext (e2.trans e3))
      cases ea
      refine ⟨ys', kk, ed', kV_keyV hk (r2.ext e3), fun z' hz => ?_, fun hz => ?_⟩
      · rcases q3 with ⟨w', hw, q3⟩ | ⟨hw, q3⟩
        · obtain ⟨z2, hz2, rz⟩ := (qq.val kk).1 w' hw
          rw [hz2] at hz
          cases hz
          exact post_here (put_dct s3 hn ta qq.drop) rz (post_ext (e1.trans (e2.trans e3)) q3)
        · rw [(qq.val kk).2 hw] at hz; cases hz
      · rcases q3 with ⟨w', hw, q3⟩ | ⟨hw, q3⟩
        · obtain ⟨z2, hz2, rz⟩ := (qq.val kk).1 w' hw
          rw [hz2] at hz
          cases hz
        · exact post_here s3 r3 (post_ext (e1.trans (e2.trans e3)) q3)
    · cases h
theorem sndP : ∀ (c : Ctx) (m : Exs) (X : Cx) (Wx : WX), Gd c cA T k cur Wx X → ∀ (ks : List (Option Expr)) (vs : List Expr) (pos : Pos), ckP c m ks vs = true → ∃ trs, PPs X pos ks vs trs ∧ ∀ {σ : St} {F : Hp} {β : List Addr} {Γ : Env} {S : Sto} {H : Hp} {R : PL} {E0 : PX} {Q1 : List (V × V) → Hp → Prop}, Sim X.K cA F β S H → EnvR X.K F β Γ σ → WL (orcE T k cur) m Γ S R E0 → (∀ c S, E0 c S → postX X.K cA F β Wx σ c S) →
    (∀ F' β' S1 H1 ws ps, Ext F β F' β' → Sim X.K cA F' β' S1 H1 → (∀ kvs, pairsV ws = some kvs → ∃ kys : List (Key × V), ps = kys.map (fun kv => (kV kv.1, kv.2)) ∧ VRk X.K F' β' kvs kys) → R ws S1 → Q1 ps H1) → tPairs trs σ H Q1
  | c, .nil, X, Wx, g, ks, vs, pos, h => by
    match ks, vs, h with
    | [], [], _ => exact ⟨[], pps_nil, fun {σ F β Γ S H R E0 Q1} s en w hE hh => hh F β S H [] [] (Ext.refl _ _) s (fun kvs e => by cases e; exact ⟨[], rfl, rfl⟩) w⟩
    | [], _ :: _, h => simp [ckP] at h
    | _ :: _, _, h => simp [ckP] at h
  | c, .cons m1 .nil, X, Wx, g, ks, vs, pos, h => by simp [ckP] at h
  | c, .cons m1 (.cons m2 r), X, Wx, g, ks, vs, pos, h => by
    match ks, vs, h with
    | some k' :: ks, v' :: vs, h =>
      have h := show (ckE c m1 k' && ckE c m2 v' && ckP c r ks vs) = true from h
      obtain ⟨h, h3⟩ := ba h
      obtain ⟨h1, h2⟩ := ba h
      obtain ⟨trs, hp, ih⟩ := sndP _ r X Wx g ks vs pos h3
      refine ⟨_, pps_cons (sndE _ m1 X Wx g _ h1) (sndE _ m2 X Wx g _ h2) hp, fun {σ F β Γ S H R E0 Q1} s en w hE hh => ?_⟩
      refine runE (orcE_mono T k cur) s en w hE fun F1 β1 S1 H1 v x e1 s1 r1 q1 => ?_
      refine runE (orcE_mono T k cur) s1 (en.ext e1) q1 (fun c' S' z => postX_ext e1 c' S' (hE c' S' z)) fun F2 β2 S2 H2 u y e2 s2 r2 q2 => ?_
      refine ih s2 (en.ext (e1.trans e2)) q2 (fun c' S' z => postX_ext (e1.trans e2) c' S' (hE c' S' z)) fun F3 β3 S3 H3 ws ps e3 s3 rp q3 => ?_
      refine hh F3 β3 S3 H3 (v :: u :: ws) ((x, y) :: ps) (e1.trans (e2.trans e3)) s3 (fun kvs hk => ?_) q3
      unfold pairsV at hk
      split at hk <;> first | cases hk | skip
      rename_i k0 r0 hk1 hk2
      obtain ⟨kys, e4, r4⟩ := rp _ hk2
      refine ⟨(k0, y) :: kys, ?_, ⟨y, kys, rfl, r2.ext e3, r4⟩⟩
      rw [e4, kV_keyV hk1 r1]; rfl
    | [], _, h => simp [ckP] at h
    | none :: _, _, h => simp [ckP] at h
    | some _ :: _, [], h => simp [ckP] at h
theorem sndOe : ∀ (c : Ctx) (m : Oe) (X : Cx) (Wx : WX), Gd c cA T k cur Wx X → ∀ (e : Option Expr), ckO c m e = true → PO X e (liftO X.K cA Wx (WOe (orcE T k cur) m))
  | c, .none, X, Wx, g, e, h => by
    simp only [ckO] at h
    split at h
    · exact po_none.weak fun σ H Q ⟨F, β, Γ, S, s, en, q⟩ => q F β H (Ext.refl _ _) s
    · cases h
  | c, .some m, X, Wx, g, e, h => by
    simp only [ckO] at h
    split at h
    · refine (po_some (sndE _ m X Wx g _ h)).weak fun σ H Q ⟨F, β, Γ, S, s, en, q⟩ => ?_
      refine runE (orcE_mono T k cur) s en q (fun _ _ q => q) fun F1 β1 S1 H1 v x e1 s1 r1 ⟨i, ev, q1⟩ => ?_
      subst ev
      cases r1
      exact ⟨i, rfl, q1 F1 β1 H1 e1 s1⟩
    · cases h
theorem sndI : ∀ (c : Ctx) (m : It) (X : Cx) (Wx : WX), Gd c cA T k cur Wx X → ∀ (tg e : Expr), ckI c m tg e = true → PI X tg e (liftI X.K cA Wx (WI (orcE T k cur) m))
  | c, .seq m, X, Wx, g, tg, e, h => by
    simp only [ckI] at h
    obtain ⟨h1, h2⟩ := ba h
    refine (pi_seqA (sndE _ m X Wx g _ h1)).weak fun σ H Q ⟨F, β, Γ, S, s, en, q⟩ => ?_
    refine runE (orcE_mono T k cur) s en q (fun _ _ q => q) fun F1 β1 S1 H1 v x e1 s1 r1 q1 => ?_
    obtain ⟨xs, G, hh, p⟩ := wSeq_ok s1 r1 q1
    rcases hh with ⟨a, ys, z1, z2, z3⟩ | ⟨a, ys, z1, z2, z3⟩ | ⟨a, z1, z3⟩
    · exact .inl ⟨a, ys, z1, z2, p F1 β1 H1 _ e1 s1 z3⟩
    · exact .inr (.inl ⟨a, ys, z1, z2, p F1 β1 H1 _ e1 s1 z3⟩)
    · exact .inr (.inr ⟨a, z1, p F1 β1 H1 _ e1 s1 z3⟩)
  | c, .range1 m, X, Wx, g, tg, e, h => by
    simp only [ckI] at h
    split at h
    · obtain ⟨h, h4⟩ := ba h
      obtain ⟨h, h3⟩ := ba h
      obtain ⟨h1, h2⟩ := ba h
      have hx := of_decide_eq_true h1
      subst hx
      refine (pi_range1 (g.gl _ h2) (g.blt _ (by decide)) (pa_cons (sndE _ m X Wx g _ h3) pa_nil (star_cons h4 _ _)) (star_cons h4 _ _)).weak fun σ H Q ⟨F, β, Γ, S, s, en, q⟩ => ?_
      refine runE (orcE_mono T k cur) s en q (fun _ _ q => q) fun F1 β1 S1 H1 v x e1 s1 r1 ⟨i, ev, l1, l2, q1⟩ => ?_
      subst ev
      cases r1
      exact ⟨i, rfl, l1, l2, q1 F1 β1 H1 _ e1 s1 itok_r⟩
    · cases h
  | c, .range2 m n, X, Wx, g, tg, e, h => by
    simp only [ckI] at h
    split at h
    · obtain ⟨h, h6⟩ := ba h
      obtain ⟨h, h5⟩ := ba h
      obtain ⟨h, h4⟩ := ba h
      obtain ⟨h, h3⟩ := ba h
      obtain ⟨h1, h2⟩ := ba h
      have hx := of_decide_eq_true h1
      subst hx
      refine (pi_range2 (g.gl _ h2) (g.blt _ (by decide)) (pa_cons (sndE _ m X Wx g _ h3) (pa_cons (sndE _ n X Wx g _ h5) pa_nil (star_cons h6 _ _)) (star_cons h4 _ _)) (by rw [star_cons h4, star_cons h6]; rfl) (star_cons h6 _ _)).weak fun σ H Q ⟨F, β, Γ, S, s, en, q⟩ => ?_
      refine runE (orcE_mono T k cur) s en q (fun _ _ q => q) fun F1 β1 S1 H1 v x e1 s1 r1 q1 => ?_
      refine runE (orcE_mono T k cur) s1 (en.ext e1) q1 (postX_ext e1) fun F2 β2 S2 H2 u y e2 s2 r2 ⟨i, ev, j, eu, l1, q2⟩ => ?_
      subst ev eu
      cases r1
      cases r2
      exact ⟨i, j, rfl, l1, q2 F2 β2 H2 _ (e1.trans e2) s2 itok_r⟩
    · cases h
  | c, .revr m, X, Wx, g, tg, e, h => by
    simp only [ckI] at h
    split at h
    · obtain ⟨h, h6⟩ := ba h
      obtain ⟨h, h5⟩ := ba h
      obtain ⟨h, h4⟩ := ba h
      obtain ⟨h, h3⟩ := ba h
      obtain ⟨h1, h2⟩ := ba h
      have hx := of_decide_eq_true h1
      have hy := of_decide_eq_true h3
      subst hx hy
      refine (pi_revR (g.gl _ h2) (g.blt _ (by decide)) (prg_1 (g.gl _ h4) (g.blt _ (by decide)) (sndE _ m X Wx g _ h5) (star_cons h6 _ _)) rfl).weak fun σ H Q ⟨F, β, Γ, S, s, en, q⟩ => ?_
      refine runE (orcE_mono T k cur) s en q (fun _ _ q => q) fun F1 β1 S1 H1 v x e1 s1 r1 ⟨i, ev, ⟨l1, l2⟩, q1⟩ => ?_
      subst ev
      cases r1
      refine ⟨i, rfl, by decide, by decide, l1, l2, ?_⟩
      have z1 : (0 : Int) + (((i - 0).toNat : Nat) : Int) - 1 = ((i.toNat : Nat) : Int) - 1 := by omega
      have z2 : (i - 0).toNat = i.toNat := by omega
      rw [z1, z2]
      exact q1 F1 β1 H1 _ e1 s1 itok_d
    · cases h
  | c, .rangeD m n, X, Wx, g, tg, e, h => by
    simp only [ckI] at h
    split at h
    · obtain ⟨h, h7⟩ := ba h
      obtain ⟨h, h6⟩ := ba h
      obtain ⟨h, h5⟩ := ba h
      obtain ⟨h, h4⟩ := ba h
      obtain ⟨h, h3⟩ := ba h
      obtain ⟨h1, h2⟩ := ba h
      have hx := of_decide_eq_true h1
      have hj := of_decide_eq_true h7
      subst hx hj
      refine (pi_range3 (g.gl _ h2) (g.blt _ (by decide)) (pa_cons (sndE _ m X Wx g _ h3) (pa_cons (sndE _ n X Wx g _ h5) (pa_cons (pe_un un_neg pe_int) pa_nil rfl) (star_cons h6 _ _)) (star_cons h4 _ _)) (star_cons h4 _ _) (by rw [star_cons h6]; rfl)).weak fun σ H Q ⟨F, β, Γ, S, s, en, q⟩ => ?_
      refine runE (orcE_mono T k cur) s en q (fun _ _ q => q) fun F1 β1 S1 H1 v x e1 s1 r1 q1 => ?_
      refine runE (orcE_mono T k cur) s1 (en.ext e1) q1 (postX_ext e1) fun F2 β2 S2 H2 u y e2 s2 r2 ⟨i, ev, j, eu, ⟨l1, l2, l3, l4⟩, q2⟩ => ?_
      subst ev eu
      cases r1
      cases r2
      refine ⟨1, rfl, i, j, -1, (i - j).toNat, rfl, RgC.neg l1 l2 l3 l4, ?_⟩
      exact q2 F2 β2 H2 _ (e1.trans e2) s2 itok_d
    · cases h
  | c, .enum m, X, Wx, g, tg, e, h => by
    simp only [ckI] at h
    split at h
    · obtain ⟨h, h4⟩ := ba h
      obtain ⟨h, h3⟩ := ba h
      obtain ⟨h1, h2⟩ := ba h
      have hx := of_decide_eq_true h1
      subst hx
      refine (pi_enumA (g.gl _ h2) (g.blt _ (by decide)) (pa_cons (sndE _ m X Wx g _ h3) pa_nil (star_cons h4 _ _)) (star_cons h4 _ _)).weak fun σ H Q ⟨F, β, Γ, S, s, en, q⟩ => ?_
      refine runE (orcE_mono T k cur) s en q (fun _ _ q => q) fun F1 β1 S1 H1 v x e1 s1 r1 q1 => ?_
      obtain ⟨a, ys, xs, G, ev, z, p⟩ := wEn_ok s1 r1 q1
      subst ev
      refine ⟨a, ys, rfl, ?_⟩
      rcases z with ⟨z1, z2⟩ | ⟨z1, z2⟩
      · exact .inl ⟨z1, p F1 β1 H1 _ e1 s1 z2⟩
      · exact .inr ⟨z1, p F1 β1 H1 _ e1 s1 z2⟩
    · cases h
  | c, .zip m n, X, Wx, g, tg, e, h => by
    simp only [ckI] at h
    split at h
    · obtain ⟨h, h6⟩ := ba h
      obtain ⟨h, h5⟩ := ba h
      obtain ⟨h, h4⟩ := ba h
      obtain ⟨h, h3⟩ := ba h
      obtain ⟨h1, h2⟩ := ba h
      have hx := of_decide_eq_true h1
      subst hx
      refine (pi_zip (g.gl _ h2) (g.blt _ (by decide)) (pa_cons (sndE _ m X Wx g _ h3) (pa_cons (sndE _ n X Wx g _ h5) pa_nil (star_cons h6 _ _)) (star_cons h4 _ _)) (star_cons h4 _ _) (by rw [star_cons h6]; rfl)).weak fun σ H Q ⟨F, β, Γ, S, s, en, q⟩ => ?_
      refine runE (orcE_mono T k cur) s en q (fun _ _ q => q) fun F1 β1 S1 H1 v x e1 s1 r1 q1 => ?_
      refine runE (orcE_mono T k cur) s1 (en.ext e1) q1 (postX_ext e1) fun F2 β2 S2 H2 u y e2 s2 r2 q2 => ?_
      obtain ⟨a, ys, xs, G, ev, z1, z2, z3, q3⟩ := wLst_ok s2 (r1.ext e2) q2
      obtain ⟨b, ys', xs', G', eu, z4, z5, z6, p⟩ := wLst_ok s2 r2 q3
      subst ev eu
      exact ⟨a, b, ys, ys', rfl, z1, z4, p F2 β2 H2 _ (e1.trans e2) s2 (itok_z z3 ys z2 z6 ys' z5)⟩
    · cases h
  | c, .rev m, X, Wx, g, tg, e, h => by
    simp only [ckI] at h
    split at h
    · obtain ⟨h, h4⟩ := ba h
      obtain ⟨h, h3⟩ := ba h
      obtain ⟨h1, h2⟩ := ba h
      have hx := of_decide_eq_true h1
      subst hx
      refine (pi_reversed (g.gl _ h2) (g.blt _ (by decide)) (pa_cons (sndE _ m X Wx g _ h3) pa_nil (star_cons h4 _ _)) (star_cons h4 _ _)).weak fun σ H Q ⟨F, β, Γ, S, s, en, q⟩ => ?_
      refine runE (orcE_mono T k cur) s en q (fun _ _ q => q) fun F1 β1 S1 H1 v x e1 s1 r1 q1 => ?_
      obtain ⟨a, ys, xs, G, ev, z1, z2, z3, p⟩ := wLst_ok s1 r1 q1
      subst ev
      exact ⟨a, ys, rfl, z1, p F1 β1 H1 _ e1 s1 (itok_v z3 ys z2)⟩
    · cases h
  | c, .keys m, X, Wx, g, tg, e, h => by
    simp only [ckI] at h
    obtain ⟨h1, h2⟩ := ba h
    refine (pi_keys (sndE _ m X Wx g _ h1)).weak fun σ H Q ⟨F, β, Γ, S, s, en, q⟩ => ?_
    refine runE (orcE_mono T k cur) s en q (fun _ _ q => q) fun F1 β1 S1 H1 v x e1 s1 r1 ⟨kk, ev, kvs, hk, q1⟩ => ?_
    subst ev
    obtain ⟨a, rfl, t⟩ := r1
    obtain ⟨b, e2, _, od, ys, e3, qq⟩ := s1.at hk
    rw [t] at e2
    cases (Option.some.inj e2)
    exact ⟨a, od, rfl, .inl ⟨ys, s1.sub _ _ e3, q1 F1 β1 H1 _ e1 s1 (itok_k e3 qq)⟩⟩
  | c, .items m, X, Wx, g, tg, e, h => by
    simp only [ckI] at h
    split at h
    · obtain ⟨h, h4⟩ := ba h
      obtain ⟨h, h3⟩ := ba h
      obtain ⟨h1, h2⟩ := ba h
      have hx := of_decide_eq_true h1
      subst hx
      refine (pi_items (sndE _ m X Wx g _ h2) (plainB_ok h4 _ _ _) h3).weak fun σ H Q ⟨F, β, Γ, S, s, en, q⟩ => ?_
      refine runE (orcE_mono T k cur) s en q (fun _ _ q => q) fun F1 β1 S1 H1 v x e1 s1 r1 ⟨kk, ev, kvs, hk, q1⟩ => ?_
      subst ev
      obtain ⟨a, rfl, t⟩ := r1
      obtain ⟨b, e2, _, od, ys, e3, qq⟩ := s1.at hk
      rw [t] at e2
      cases (Option.some.inj e2)
      exact ⟨a, od, ys, rfl, s1.sub _ _ e3, q1 F1 β1 H1 _ e1 s1 (itok_i e3 qq)⟩
    · cases h
theorem sndT0 : ∀ (c : Ctx) (m : Tes0) (X : Cx) (Wx : WX), Gd c cA T k cur Wx X → ∀ (e : List Expr), ckT0 c m e = true → PTs X e (liftT X.K cA Wx (fun Γ S P _ => WT0 (orcE T k cur) m Γ S P))
  | c, .none, X, Wx, g, e, h => by
    simp only [ckT0] at h
    split at h
    · exact pts_nil.weak fun σ H Q ⟨F, β, Γ, S, s, en, q⟩ => q F β H (Ext.refl _ _) s
    · cases h
  | c, .some t, X, Wx, g, e, h => by
    simp only [ckT0] at h
    split at h
    · exact (pts_one (sndT _ t X Wx g _ h)).weak fun σ H Q ⟨F, β, Γ, S, s, en, q⟩ => ⟨F, β, Γ, S, s, en, WT_mono (orcE_mono T k cur) t _ _ _ _ _ _ (fun _ _ z => z) (fun _ _ z => z.elim) q⟩
    · cases h
theorem sndT : ∀ (c : Ctx) (m : Te) (X : Cx) (Wx : WX), Gd c cA T k cur Wx X → ∀ (e : Expr), ckT c m e = true → PT X e (liftT X.K cA Wx (WT (orcE T k cur) m))
  | c, .val m, X, Wx, g, e, h => by
    simp only [ckT] at h
    obtain ⟨h1, h2⟩ := ba h
    by_cases hp : plainT e = true
    · refine (pt_truth (sndE _ m X Wx g _ h1) (fun whole => plainT_he hp _ _)).weak fun σ H Q ⟨F, β, Γ, S, s, en, q⟩ => ?_
      refine runE (orcE_mono T k cur) s en q (fun _ _ q => q) fun F1 β1 S1 H1 v x e1 s1 r1 ⟨b, q1, q2⟩ => ?_
      exact ⟨b, tru_ok2 s1 r1 q1, q2 F1 β1 H1 e1 s1⟩
    · have hc : isCmp m = true := by
        rcases Bool.or_eq_true_iff.mp h2 with z | z
        · exact absurd z hp
        · exact z
      match m, hc with
      | .cmp op a b, _ =>
        simp only [ckE] at h1
        split at h1
        · obtain ⟨h, h4⟩ := ba h1
          obtain ⟨h, h3⟩ := ba h
          obtain ⟨h1, h2⟩ := ba h
          obtain ⟨r, ho, hs⟩ := cmp_ok (X := X) (cA := cA) g.u65 h1
          refine (pt_cmpR ho (sndE _ a X Wx g _ h2) (sndE _ b X Wx g _ h3) (noSet_mark h4 _)).weak fun σ H Q ⟨F, β, Γ, S, s, en, q⟩ => ?_
          refine runE (orcE_mono T k cur) s en q (fun _ _ q => q) fun F1 β1 S1 H1 v x e1 s1 r1 q1 => ?_
          refine runE (orcE_mono T k cur) s1 (en.ext e1) q1 (postX_ext e1) fun F2 β2 S2 H2 u y e2 s2 r2 q2 => ?_
          refine hs F2 β2 S2 H2 v u x y _ s2 (r1.ext e2) r2 (wCmp_mono (fun z S3 ⟨⟨b, ez⟩, b', eb, z3⟩ => ?_) (wCmp_bl q2))
          subst ez
          cases eb
          intro F3 β3 H3 zz e3 s3 rz
          cases rz
          exact ⟨_, rfl, z3 F3 β3 H3 (e1.trans (e2.trans e3)) s3⟩
        · cases h1
      | .isN a, _ =>
        simp only [ckE] at h1
        split at h1
        · refine (pt_cmp (pc_isN (sndE _ a X Wx g _ h1)) rfl).weak fun σ H Q ⟨F, β, Γ, S, s, en, q⟩ => ?_
          refine runE (orcE_mono T k cur) s en q (fun _ _ q => q) fun F1 β1 S1 H1 v x e1 s1 r1 ⟨b, eb, q1⟩ => ?_
          cases eb
          rw [isNon_ok r1]
          exact ⟨_, rfl, q1 F1 β1 H1 e1 s1⟩
        · cases h1
      | .notN a, _ =>
        simp only [ckE] at h1
        split at h1
        · refine (pt_cmp (pc_notN (sndE _ a X Wx g _ h1)) rfl).weak fun σ H Q ⟨F, β, Γ, S, s, en, q⟩ => ?_
          refine runE (orcE_mono T k cur) s en q (fun _ _ q => q) fun F1 β1 S1 H1 v x e1 s1 r1 ⟨b, eb, q1⟩ => ?_
          cases eb
          rw [isNon_ok r1]
          exact ⟨_, rfl, q1 F1 β1 H1 e1 s1⟩
        · cases h1
      | .chain op op' a b d, _ =>
        simp only [ckE] at h1
        split at h1
        · obtain ⟨h, h6⟩ := ba h1
          obtain ⟨h, h5⟩ := ba h
          obtain ⟨h, h4⟩ := ba h
          obtain ⟨h, h3⟩ := ba h
          obtain ⟨h1, h2⟩ := ba h
          obtain ⟨r, ho, hs⟩ := cmp_ok (X := X) (cA := cA) g.u65 h1
          obtain ⟨r', ho', hs'⟩ := cmp_ok (X := X) (cA := cA) g.u65 h2
          refine (pt_chain ho ho' (sndE _ a X Wx g _ h3) (sndE _ b X Wx g _ h4) (sndE _ d X Wx g _ h5) (noSet_mark h6 _)).weak fun σ H Q ⟨F, β, Γ, S, s, en, q⟩ => ?_
          refine runE (orcE_mono T k cur) s en q (fun _ _ q => q) fun F1 β1 S1 H1 v x e1 s1 r1 q1 => ?_
          refine runE (orcE_mono T k cur) s1 (en.ext e1) q1 (postX_ext e1) fun F2 β2 S2 H2 u y e2 s2 r2 q2 => ?_
          refine hs F2 β2 S2 H2 v u x y _ s2 (r1.ext e2) r2 (wCmp_mono (fun z S3 ⟨kk, ez, z3⟩ => ?_) q2)
          subst ez
          intro F3 β3 H3 zz e3 s3 rz
          cases rz
          refine ⟨kk, rfl, ?_⟩
          cases kk with
          | true =>
            refine runE (orcE_mono T k cur) s3 (en.ext (e1.trans (e2.trans e3))) z3 (postX_ext (e1.trans (e2.trans e3))) fun F4 β4 S4 H4 w y4 e4 s4 r4 q4 => ?_
            refine hs' F4 β4 S4 H4 u w y y4 _ s4 (r2.ext (e3.trans e4)) r4 (wCmp_mono (fun z S3 ⟨⟨b, ez⟩, b', eb, z3⟩ => ?_) (wCmp_bl q4))
            subst ez
            cases eb
            intro F5 β5 H5 zz e5 s5 rz
            cases rz
            exact ⟨_, rfl, z3 F5 β5 H5 (e1.trans (e2.trans (e3.trans (e4.trans e5)))) s5⟩
          | false =>
            obtain ⟨b', eb, z3⟩ := z3
            cases eb
            exact ⟨_, rfl, z3 F3 β3 H3 (e1.trans (e2.trans e3)) s3⟩
        · cases h1
      | .chain3 op op' op'' a b d f, _ =>
        simp only [ckE] at h1
        split at h1
        · obtain ⟨h, h8⟩ := ba h1
          obtain ⟨h, h7⟩ := ba h
          obtain ⟨h, h6⟩ := ba h
          obtain ⟨h, h5⟩ := ba h
          obtain ⟨h, h4⟩ := ba h
          obtain ⟨h, h3⟩ := ba h
          obtain ⟨h1, h2⟩ := ba h
          obtain ⟨r, ho, hs⟩ := cmp_ok (X := X) (cA := cA) g.u65 h1
          obtain ⟨r', ho', hs'⟩ := cmp_ok (X := X) (cA := cA) g.u65 h2
          obtain ⟨r'', ho'', hs''⟩ := cmp_ok (X := X) (cA := cA) g.u65 h3
          refine (pt_chain3 ho ho' ho'' (sndE _ a X Wx g _ h4) (sndE _ b X Wx g _ h5) (sndE _ d X Wx g _ h6) (sndE _ f X Wx g _ h7) (noSet_mark h8 _)).weak fun σ H Q ⟨F, β, Γ, S, s, en, q⟩ => ?_
          refine runE (orcE_mono T k cur) s en q (fun _ _ q => q) fun F1 β1 S1 H1 v x e1 s1 r1 q1 => ?_
          refine runE (orcE_mono T k cur) s1 (en.ext e1) q1 (postX_ext e1) fun F2 β2 S2 H2 u y e2 s2 r2 q2 => ?_
          refine hs F2 β2 S2 H2 v u x y _ s2 (r1.ext e2) r2 (wCmp_mono (fun z S3 ⟨kk, ez, z3⟩ => ?_) q2)
          subst ez
          intro F3 β3 H3 zz e3 s3 rz
          cases rz
          refine ⟨kk, rfl, ?_⟩
          cases kk with
          | true =>
            refine runE (orcE_mono T k cur) s3 (en.ext (e1.trans (e2.trans e3))) z3 (postX_ext (e1.trans (e2.trans e3))) fun F4 β4 S4 H4 w y4 e4 s4 r4 q4 => ?_
            refine hs' F4 β4 S4 H4 u w y y4 _ s4 (r2.ext (e3.trans e4)) r4 (wCmp_mono (fun z S5 ⟨kk, ez, z5⟩ => ?_) q4)
            subst ez
            intro F5 β5 H5 zz e5 s5 rz
            cases rz
            refine ⟨kk, rfl, ?_⟩
            cases kk with
            | true =>
              refine runE (orcE_mono T k cur) s5 (en.ext (e1.trans (e2.trans (e3.trans (e4.trans e5))))) z5 (postX_ext (e1.trans (e2.trans (e3.trans (e4.trans e5))))) fun F6 β6 S6 H6 w6 y6 e6 s6 r6 q6 => ?_
              refine hs'' F6 β6 S6 H6 w w6 y4 y6 _ s6 (r4.ext (e5.trans e6)) r6 (wCmp_mono (fun z S7 ⟨⟨b, ez⟩, b', eb, z7⟩ => ?_) (wCmp_bl q6))
              subst ez
              cases eb
              intro F7 β7 H7 zz e7 s7 rz
              cases rz
              exact ⟨_, rfl, z7 F7 β7 H7 (e1.trans (e2.trans (e3.trans (e4.trans (e5.trans (e6.trans e7)))))) s7⟩
            | false =>
              obtain ⟨b', eb, z5⟩ := z5
              cases eb
              exact ⟨_, rfl, z5 F5 β5 H5 (e1.trans (e2.trans (e3.trans (e4.trans e5)))) s5⟩
          | false =>
            obtain ⟨b', eb, z3⟩ := z3
            cases eb
            exact ⟨_, rfl, z3 F3 β3 H3 (e1.trans (e2.trans e3)) s3⟩
        · cases h1
  | c, .not t, X, Wx, g, e, h => by
    simp only [ckT] at h
    split at h
    · refine (pt_not (sndT _ t X Wx g _ h)).weak fun σ H Q ⟨F, β, Γ, S, s, en, q⟩ => ?_
      exact runT (orcE_mono T k cur) s en q (fun _ _ q => q) fun F1 β1 S1 H1 v e1 s1 q1 => q1 F1 β1 H1 e1 s1
    · cases h
  | c, .and ts, X, Wx, g, e, h => by
    simp only [ckT] at h
    split at h
    · exact (sndA _ ts X Wx g _ _ h).pt.weak fun σ H Q q => q
    · cases h
  | c, .or ts, X, Wx, g, e, h => by
    simp only [ckT] at h
    split at h
    · exact (sndO _ ts X Wx g _ _ h).pt.weak fun σ H Q q => q
    · cases h
theorem sndA : ∀ (c : Ctx) (m : Tes) (X : Cx) (Wx : WX), Gd c cA T k cur Wx X → ∀ (es : List Expr) (pos : Pos), ckTs c m es = true → PW X (.BoolOp .And es pos) (liftT X.K cA Wx (WA (orcE T k cur) m))
  | c, .one t, X, Wx, g, es, pos, h => by
    simp only [ckTs] at h
    split at h
    · exact (pw_and1 (sndT _ t X Wx g _ h)).weak fun σ H Q q => q
    · cases h
  | c, .cons t ts, X, Wx, g, es, pos, h => by
    simp only [ckTs] at h
    split at h
    · obtain ⟨h1, h2⟩ := ba h
      refine (pw_and (sndT _ t X Wx g _ h1) (sndA _ ts X Wx g _ pos h2)).weak fun σ H Q ⟨F, β, Γ, S, s, en, q⟩ => ?_
      refine runT (orcE_mono T k cur) s en q (fun _ _ q => q) fun F1 β1 S1 H1 v e1 s1 q1 => ?_
      cases v with
      | true => exact ⟨F1, β1, Γ, S1, s1, en.ext e1, WA_mono (orcE_mono T k cur) ts _ _ _ _ _ _ (fun b S2 z F2 β2 H2 e2 s2 => z F2 β2 H2 (e1.trans e2) s2) (postX_ext e1) q1⟩
      | false => exact q1 F1 β1 H1 e1 s1
    · cases h
theorem sndO : ∀ (c : Ctx) (m : Tes) (X : Cx) (Wx : WX), Gd c cA T k cur Wx X → ∀ (es : List Expr) (pos : Pos), ckTs c m es = true → PW X (.BoolOp .Or es pos) (liftT X.K cA Wx (WO (orcE T k cur) m))
  | c, .one t, X, Wx, g, es, pos, h => by
    simp only [ckTs] at h
    split at h
    · exact (pw_or1 (sndT _ t X Wx g _ h)).weak fun σ H Q q => q
    · cases h
  | c, .cons t ts, X, Wx, g, es, pos, h => by
    simp only [ckTs] at h
    split at h
    · obtain ⟨h1, h2⟩ := ba h
      refine (pw_or (sndT _ t X Wx g _ h1) (sndO _ ts X Wx g _ pos h2)).weak fun σ H Q ⟨F, β, Γ, S, s, en, q⟩ => ?_
      refine runT (orcE_mono T k cur) s en q (fun _ _ q => q) fun F1 β1 S1 H1 v e1 s1 q1 => ?_
      cases v with
      | false => exact ⟨F1, β1, Γ, S1, s1, en.ext e1, WO_mono (orcE_mono T k cur) ts _ _ _ _ _ _ (fun b S2 z F2 β2 H2 e2 s2 => z F2 β2 H2 (e1.trans e2) s2) (postX_ext e1) q1⟩
      | true => exact q1 F1 β1 H1 e1 s1
    · cases h
theorem sndB : ∀ (c : Ctx) (m : Te) (X : Cx) (Wx : WX), Gd c cA T k cur Wx X → ∀ (e : Expr), ckT c m e = true → PE X e (liftE X.K cA Wx (WB (orcE T k cur) m))
  | c, .val m, X, Wx, g, e, h => by
    simp only [ckT] at h
    exact (sndE _ m X Wx g e (ba h).1).weak fun σ H Q q => q
  | c, .not t, X, Wx, g, e, h => by
    simp only [ckT] at h
    split at h
    · refine (pe_not (sndB _ t X Wx g _ h)).weak fun σ H Q ⟨F, β, Γ, S, s, en, q⟩ => ?_
      refine runB (orcE_mono T k cur) s en q (fun _ _ q => q) fun F1 β1 S1 H1 v x e1 s1 r1 ⟨b, eb, q1⟩ => ?_
      subst eb
      cases r1
      exact ⟨b, rfl, post_here (v := .bl _) s1 rfl (post_ext e1 q1)⟩
    · cases h
  | c, .and ts, X, Wx, g, e, h => by
    simp only [ckT] at h
    split at h
    · exact (sndBA _ ts X Wx g _ _ h).weak fun σ H Q q => q
    · cases h
  | c, .or ts, X, Wx, g, e, h => by
    simp only [ckT] at h
    split at h
    · exact (sndBO _ ts X Wx g _ _ h).weak fun σ H Q q => q
    · cases h
theorem sndBA : ∀ (c : Ctx) (m : Tes) (X : Cx) (Wx : WX), Gd c cA T k cur Wx X → ∀ (es : List Expr) (pos : Pos), ckTs c m es = true → PE X (.BoolOp .And es pos) (liftE X.K cA Wx (WBA (orcE T k cur) m))
  | c, .one t, X, Wx, g, es, pos, h => by
    simp only [ckTs] at h
    split at h
    · exact (pe_one (sndB _ t X Wx g _ h)).weak fun σ H Q q => q
    · cases h
  | c, .cons t ts, X, Wx, g, es, pos, h => by
    simp only [ckTs] at h
    split at h
    · obtain ⟨h1, h2⟩ := ba h
      refine (pe_andT (sndB _ t X Wx g _ h1) (sndBA _ ts X Wx g _ pos h2)).weak fun σ H Q ⟨F, β, Γ, S, s, en, q⟩ => ?_
      refine runB (orcE_mono T k cur) s en q (fun _ _ q => q) fun F1 β1 S1 H1 v x e1 s1 r1 ⟨b, eb, q1⟩ => ?_
      refine ⟨b, tru_ok2 s1 r1 eb, ?_⟩
      cases b with
      | true => exact ⟨F1, β1, Γ, S1, s1, en.ext e1, WBA_mono (orcE_mono T k cur) ts _ _ _ _ _ _ (fun b S2 z => post_ext e1 z) (postX_ext e1) q1⟩
      | false => exact post_here s1 r1 (post_ext e1 q1)
    · cases h
theorem sndBO : ∀ (c : Ctx) (m : Tes) (X : Cx) (Wx : WX), Gd c cA T k cur Wx X → ∀ (es : List Expr) (pos : Pos), ckTs c m es = true → PE X (.BoolOp .Or es pos) (liftE X.K cA Wx (WBO (orcE T k cur) m))
  | c, .one t, X, Wx, g, es, pos, h => by
    simp only [ckTs] at h
    split at h
    · exact (pe_one (sndB _ t X Wx g _ h)).weak fun σ H Q q => q
    · cases h
  | c, .cons t ts, X, Wx, g, es, pos, h => by
    simp only [ckTs] at h
    split at h
    · obtain ⟨h1, h2⟩ := ba h
      refine (pe_orT (sndB _ t X Wx g _ h1) (sndBO _ ts X Wx g _ pos h2)).weak fun σ H Q ⟨F, β, Γ, S, s, en, q⟩ => ?_
      refine runB (orcE_mono T k cur) s en q (fun _ _ q => q) fun F1 β1 S1 H1 v x e1 s1 r1 ⟨b, eb, q1⟩ => ?_
      refine ⟨b, tru_ok2 s1 r1 eb, ?_⟩
      cases b with
      | false => exact ⟨F1, β1, Γ, S1, s1, en.ext e1, WBO_mono (orcE_mono T k cur) ts _ _ _ _ _ _ (fun b S2 z => post_ext e1 z) (postX_ext e1) q1⟩
      | true => exact post_here s1 r1 (post_ext e1 q1)
    · cases h
/-- written arguments, a lambda last -/
theorem sndLc : ∀ (c : Ctx) (id : Str) (js : List Nat) (m : Exs) (X : Cx) (Wx : WX), Gd c cA T k cur Wx X → ∀ (e : List Expr), ckLc c id js m e = true → ∀ (pos : Pos) (pins : List (Addr × Obj)) (s : Shared) (σ : St) (H : Hp) (Post : List Value → Shared → Prop) (F : Hp) (β : List Addr) (Γ : Env) (S : Sto) (R : PL) (E0 : PX),
    Inv X pins σ H s → Sim X.K cA F β S H → EnvR X.K F β Γ σ → WL (orcE T k cur) m Γ S R E0 → (∀ c S, E0 c S → postX X.K cA F β Wx σ c S) →
    (∀ (params : Arguments) (body : Expr) (scope : Scope) (lpos : Pos), ckLam c id js params (.expr body) scope = true → ∀ (F1 : Hp) (β1 : List Addr) (S1 : Sto) (H1 : Hp) (vs : List Va) (xs : List V) (us : List Value) (s1 : Shared), Ext F β F1 β1 → Sim X.K cA F1 β1 S1 H1 → VRs X.K F1 β1 vs xs → Inv X pins σ H1 s1 → Vals xs us → R vs S1 →
      wpAny (model X.prog X.w) X.A (eval (.Lambda params body scope lpos) X.env) (fun u s2 => Post (us ++ [u]) s2) X.xe s1) →
    wpAny (model X.prog X.w) X.A (spliced (backTo pos (starEach e X.env))) Post X.xe s
  | c, id, js, .nil, X, Wx, g, e, h, pos, pins, s, σ, H, Post, F, β, Γ, S, R, E0, I, si, en, w, hE, hh => by
    simp only [ckLc] at h
    split at h
    · refine Calls.spliced_cons (thn (hh _ _ _ _ h F β S H [] [] [] s (Ext.refl _ _) si rfl I .nil w) fun u s1 q => Calls.spliced_nil q)
    · cases h
  | c, id, js, .cons m ms, X, Wx, g, e, h, pos, pins, s, σ, H, Post, F, β, Γ, S, R, E0, I, si, en, w, hE, hh => by
    simp only [ckLc] at h
    split at h
    · rename_i e1 er
      obtain ⟨h, h3⟩ := ba h
      obtain ⟨h1, h2⟩ := ba h
      rw [star_cons h2]
      show wpAny _ _ (spliced ((false, eval e1 X.env) :: backTo pos (starEach er X.env))) _ _ s
      refine Calls.spliced_cons (thn ((sndE _ m X Wx g _ h1).run pins s σ H (fun x H1 => ∃ F1 β1 S1 v, Ext F β F1 β1 ∧ Sim X.K cA F1 β1 S1 H1 ∧ VR X.K F1 β1 v x ∧ WL (orcE T k cur) ms Γ S1 (fun vs S2 => R (v :: vs) S2) E0) I ?_) fun u s1 ⟨x, H1, I1, rx, F1, β1, S1, v, e2, s2, r1, q1⟩ => ?_)
      · exact runE (orcE_mono T k cur) si en w hE fun F1 β1 S1 H1 v x e1 s1 r1 q1 => ⟨F1, β1, S1, v, e1, s1, r1, q1⟩
      · refine sndLc c id js ms X Wx g er h3 pos pins s1 σ H1 _ F1 β1 Γ S1 _ E0 I1 s2 (en.ext e2) q1 (fun c S z => postX_ext e2 c S (hE c S z)) fun params body scope lpos hck F2 β2 S2 H2 vs xs us s3 e3 s4 r2 I2 rv q2 => ?_
        exact hh params body scope lpos hck F2 β2 S2 H2 (v :: vs) (x :: xs) (u :: us) s3 (e2.trans e3) s4 ⟨x, xs, rfl, r1.ext e3, r2⟩ I2 (.cons rx rv) q2
    · cases h
theorem sndL : ∀ (c : Ctx) (m : Exs) (X : Cx) (Wx : WX), Gd c cA T k cur Wx X → ∀ (e : List Expr), ckL c m e = true → PA X e (liftL X.K cA Wx (WL (orcE T k cur) m))
  | c, .nil, X, Wx, g, e, h => by
    simp only [ckL] at h
    split at h
    · exact pa_nil.weak fun σ H Q ⟨F, β, Γ, S, s, en, q⟩ => q F β H [] (Ext.refl _ _) s rfl
    · cases h
  | c, .cons m ms, X, Wx, g, e, h => by
    simp only [ckL] at h
    split at h
    · obtain ⟨h, h3⟩ := ba h
      obtain ⟨h1, h2⟩ := ba h
      refine (pa_cons (sndE _ m X Wx g _ h1) (sndL _ ms X Wx g _ h3) (star_cons h2 _ _)).weak fun σ H Q ⟨F, β, Γ, S, s, en, q⟩ => ?_
      refine runE (orcE_mono T k cur) s en q (fun _ _ q => q) fun F1 β1 S1 H1 v x e1 s1 r1 q1 => ?_
      refine runL (orcE_mono T k cur) s1 (en.ext e1) q1 (postX_ext e1) fun F2 β2 S2 H2 vs xs e2 s2 r2 q2 => ?_
      exact q2 F2 β2 H2 (x :: xs) (e1.trans e2) s2 ⟨x, xs, rfl, r1.ext e2, r2⟩
    · cases h
end
end
end AM
end

section
set_option linter.all false
set_option maxRecDepth 100000
set_option maxHeartbeats 4000000
/-! AM, seventh part: statements; a store cut; calls. -/
namespace AM
open PySem L2

theorem _root_.L2.PS.weak {X : Cx} {e : Stmt} {t t' : TS} (h : PS X e t) (w : ∀ D σ H, t' D σ H → t D σ H) : PS X e t' := ⟨fun pins s σ H D I q => h.run pins s σ H D I (w _ _ _ q)⟩
theorem _root_.L2.PSs.weak {X : Cx} {e : List Stmt} {t t' : TS} (h : PSs X e t) (w : ∀ D σ H, t' D σ H → t D σ H) : PSs X e t' := ⟨fun pins s σ H D I q => h.run pins s σ H D I (w _ _ _ q)⟩

section
variable (K : PySem.W.Frag) (cA : Str → Addr)
def postG (F : Hp) (β : List Addr) (N : St → Hp → Prop) : Env → Sto → Prop := fun Γ' S' => ∀ F' β' H' σ', Ext F β F' β' → Sim K cA F' β' S' H' → EnvR K F' β' Γ' σ' → N σ' H'
def ends (Wx : WX) (F : Hp) (β : List Addr) (D : Ends) : AEnds where
  nx := postG K cA F β D.nx
  rt := post K cA F β D.rt
  bk := postG K cA F β D.bk
  ct := postG K cA F β D.ct
  ex := fun c => postG K cA F β fun σ' H' => Wx (.ref (cA c)) none σ' H'
def liftS (Wx : WX) (w : AEnds → Env → Sto → Prop) : TS := fun D σ H => ∃ F β Γ S, Sim K cA F β S H ∧ EnvR K F β Γ σ ∧ w (ends K cA Wx F β D) Γ S
end
section
variable {K : PySem.W.Frag} {cA : Str → Addr} {F F' : Hp} {β β' : List Addr} {Wx : WX}
theorem postG_ext {N : St → Hp → Prop} (e : Ext F β F' β') : ∀ Γ S, postG K cA F β N Γ S → postG K cA F' β' N Γ S := fun Γ S h F2 β2 H2 σ2 e2 s g => h F2 β2 H2 σ2 (e.trans e2) s g
theorem ends_ext {D : Ends} (e : Ext F β F' β') : DMono (ends K cA Wx F β D) (ends K cA Wx F' β' D) :=
  ⟨postG_ext e, fun v S h => post_ext e h, postG_ext e, postG_ext e, fun c => postG_ext e⟩
theorem ex_post {D : Ends} {σ : St} {Γ : Env} (g : EnvR K F β Γ σ) : ∀ (c : Str) (S : Sto), (ends K cA Wx F β D).ex c Γ S → postX K cA F β Wx σ c S := fun c S h F2 β2 H2 e s => h F2 β2 H2 σ e s (g.ext e)
end

theorem noSwap_sw {e : Expr} {x : Str} {p : Pos} {env : PySem.Env} (h : noSwap env.scope x p e = true) (l : Nat) : swapsWith e (some (.Name x p)) l env = pure false := by
  have key : noComp e = true ∨ ∃ elt gs scope pos, e = .ListComp elt gs scope pos := by
    cases e <;> first | exact .inr ⟨_, _, _, _, rfl⟩ | exact .inl h
  rcases key with key | ⟨elt, gs, scope, pos, rfl⟩
  · exact noComp_sw key _ _ _
  unfold noSwap at h
  unfold swapsWith
  simp only []
  have e1 : (env.blockKind == .function && env.kindOf x == some .local && p.line == (Expr.ListComp elt gs scope pos).pos.line && !(scope.names.any fun (n, k) => n == x && (k == .local || k == .cell))) = false := by
    have hk : (env.kindOf x == some .local) = decide (env.scope.names.lookup x = some .local) := by
      show (env.scope.names.lookup x == some .local) = _
      rw [Bool.eq_iff_iff]; simp
    have h2 : (decide (env.scope.names.lookup x = some .local) && (p.line == pos.line) && !(scope.names.any fun (n, k) => n == x && (k == .local || k == .cell))) = false := by
      cases hb : (decide (env.scope.names.lookup x = some .local) && (p.line == pos.line) && !(scope.names.any fun (n, k) => n == x && (k == .local || k == .cell))) with
      | false => rfl
      | true => exact absurd (show (!(decide (env.scope.names.lookup x = some .local) && (p.line == pos.line) && !(scope.names.any fun (n, k) => n == x && (k == .local || k == .cell)))) = true from h) (by rw [hb]; decide)
    rw [hk]
    show (_ && _ && (p.line == pos.line) && _) = false
    rw [Bool.and_assoc, Bool.and_assoc, ← Bool.and_assoc (decide _), h2, Bool.and_false]
  rw [e1]
theorem yesSwap_sw {elt : Expr} {gs : List Comprehension} {scope : Scope} {pos : Pos} {x : Str} {p : Pos} {env : PySem.Env} (hk : env.scope.kind = .function) (h : yesSwap env.scope x p (.ListComp elt gs scope pos) = true) (l : Nat) : env.scope.names.lookup x = some .local ∧ swapsWith (.ListComp elt gs scope pos) (some (.Name x p)) l env = pure true := by
  unfold yesSwap at h
  obtain ⟨h, h3⟩ := ba h
  obtain ⟨h1, h2⟩ := ba h
  have h4 := of_decide_eq_true h1
  exact ⟨h4, sw_true hk h4 h2 (by simpa using h3)⟩
theorem noTup_sw {ts : List Expr} {e : Expr} {k : Nat} {p : Pos} (h : noTup e = true) (env : PySem.Env) : swappedStores [.Tuple ts k p] e env = pure none := by
  cases e <;> first | rfl | cases h
theorem sub_sole {o i e : Expr} {p : Pos} {l : Nat} {env : PySem.Env} : swapsWithSole [.Subscript o i p] e l env = pure false := by cases e <;> rfl
theorem att_sw {o e : Expr} {n : Str} {p : Pos} {l : Nat} {env : PySem.Env} : swapsWith e (some (.Attribute o n p)) l env = pure false := by cases e <;> rfl
theorem noComp_sole {e : Expr} (h : noComp e = true) (t : Expr) (l : Nat) (env : PySem.Env) : swapsWithSole [t] e l env = pure false := noComp_sw h _ _ _
theorem noSlice_asg {i : Expr} (h : noSlice i = true) (o : Expr) (pos : Pos) (env : PySem.Env) (v : Value) : assign (.Subscript o i pos) env v = (do
      let ov ← holding [v] (eval o env)
      let iv ← holding [v, ov] (eval i env)
      standAt pos
      holding [v, ov, iv] (setItem ov iv v)
      release [v, ov, iv] []) := by
  cases i <;> first | rfl | cases h
theorem set_or {X : Cx} (hu : X.A.units + 1 < cLine) : PSet X (fun o i v H Q => rSetL o i v H Q ∨ ∃ a H', o = .ref a ∧ DPut H a i v H' ∧ Q H') := fun pins s σ H o i v ov iv u Q I ro ri rv h => by
  rcases h with h | ⟨a, H', rfl, hd, q⟩
  · exact set_list pins s σ H o i v ov iv u Q I ro ri rv h
  · cases ro
    exact d_setItem hu I hd ri rv fun s' I' => ⟨H', I', q⟩
theorem putFO_ok {C : Orc} {f : Str} {v : Va} {ob ob' : Ob} (h : putFO C f v ob = some ob') : ∃ c fs, ob = .ins c fs ∧ ob' = .ins c (putFA f v fs) ∧ C.noat c f = true ∧ fs.length < 1000 := by
  cases ob with
  | ins c fs =>
    simp only [putFO] at h
    split at h
    · rename_i hn; cases h; exact ⟨c, fs, rfl, rfl, hn.1, hn.2⟩
    · cases h
  | _ => cases h
section
variable {c : Ctx} {cA : Str → Addr} {T : Tab} {k : Nat}
theorem pass_str {s : Stmt} {X : Cx} {t : TS} (hp : ∀ pos, PS X (.Pass pos) t) (hd : ∀ x j p p', PS X (.Expr (.Constant (.str x) j p) p') t) (h : (match s with
    | .Pass _ => true
    | .Expr (.Constant (.str _) _ _) _ => true
    | _ => false) = true) : PS X s t := by
  split at h
  · exact hp _
  · exact hd _ _ _ _
  · cases h
mutual
theorem sndS : ∀ (m : Sm) (c : Ctx) (cur : Option (Addr × Str)) (X : Cx) (Wx : WX), Gd c cA T k cur Wx X → X.stack = X.env :: X.outer → X.env.frame = some X.env.locals → ∀ (st : Stmt), ckS c m st = true → PS X st (liftS X.K cA Wx (WS (orcE T k cur) m))
  | .set i e, c, cur, X, Wx, g, hst, hfr, st, h => by
    simp only [ckS] at h
    split at h
    · obtain ⟨h, h4⟩ := ba h
      obtain ⟨h, h3⟩ := ba h
      obtain ⟨h1, h2⟩ := ba h
      obtain ⟨hl, hf⟩ := g.loc _ h2
      refine (ps_set (i := i) g.nd (by rw [g.hN]; exact of_decide_eq_true h1) hl (sndE _ e X Wx g _ h3) (noSwap_sw (by rw [g.sc]; exact h4) _) hf).weak fun D σ H ⟨F, β, Γ, S, s, en, q⟩ => ?_
      refine runE (orcE_mono T k cur) s en q (ex_post en) fun F1 β1 S1 H1 v x e1 s1 r1 q1 => ?_
      exact q1 F1 β1 H1 _ e1 s1 ((en.ext e1).set r1)
    · cases h
  | .ret e, c, cur, X, Wx, g, hst, hfr, st, h => by
    simp only [ckS] at h
    split at h
    · refine (ps_ret (sndE _ e X Wx g _ h)).weak fun D σ H ⟨F, β, Γ, S, s, en, q⟩ => ?_
      refine runE (orcE_mono T k cur) s en q (ex_post en) fun F1 β1 S1 H1 v x e1 s1 r1 q1 => ?_
      exact q1 F1 β1 H1 _ e1 s1 r1
    · cases h
  | .retN, c, cur, X, Wx, g, hst, hfr, st, h => by
    simp only [ckS] at h
    split at h
    · exact ps_retN.weak fun D σ H ⟨F, β, Γ, S, s, en, q⟩ => q F β H _ (Ext.refl _ _) s rfl
    · cases h
  | .pass, c, cur, X, Wx, g, hst, hfr, st, h => by
    simp only [ckS] at h
    exact pass_str (fun pos => ps_pass.weak fun D σ H ⟨F, β, Γ, S, s, en, q⟩ => q F β H _ (Ext.refl _ _) s en) (fun x j p p' => ps_doc.weak fun D σ H ⟨F, β, Γ, S, s, en, q⟩ => q F β H _ (Ext.refl _ _) s en) h
  | .brk, c, cur, X, Wx, g, hst, hfr, st, h => by
    simp only [ckS] at h
    split at h
    · exact ps_break.weak fun D σ H ⟨F, β, Γ, S, s, en, q⟩ => q F β H _ (Ext.refl _ _) s en
    · cases h
  | .cont, c, cur, X, Wx, g, hst, hfr, st, h => by
    simp only [ckS] at h
    split at h
    · exact ps_continue.weak fun D σ H ⟨F, β, Γ, S, s, en, q⟩ => q F β H _ (Ext.refl _ _) s en
    · cases h
  | .drop e, c, cur, X, Wx, g, hst, hfr, st, h => by
    simp only [ckS] at h
    split at h
    · obtain ⟨h1, h2⟩ := ba h
      refine (ps_expr (sndE _ e X Wx g _ h1) (noComp_sw h2 _ _ _)).weak fun D σ H ⟨F, β, Γ, S, s, en, q⟩ => ?_
      refine runE (orcE_mono T k cur) s en q (ex_post en) fun F1 β1 S1 H1 v x e1 s1 r1 q1 => ?_
      exact q1 F1 β1 H1 _ e1 s1 (en.ext e1)
    · cases h
  | .ite t a b, c, cur, X, Wx, g, hst, hfr, st, h => by
    simp only [ckS] at h
    split at h
    · obtain ⟨h, h3⟩ := ba h
      obtain ⟨h1, h2⟩ := ba h
      refine (ps_if (sndT _ t X Wx g _ h1) (sndSs a c cur X Wx g hst hfr _ h2) (sndSs b c cur X Wx g hst hfr _ h3)).weak fun D σ H ⟨F, β, Γ, S, s, en, q⟩ => ?_
      refine runT (orcE_mono T k cur) s en q (ex_post en) fun F1 β1 S1 H1 v e1 s1 q1 => ?_
      cases v with
      | true => exact ⟨F1, β1, Γ, S1, s1, en.ext e1, WSs_mono (orcE_mono T k cur) a _ _ _ _ (ends_ext e1) q1⟩
      | false => exact ⟨F1, β1, Γ, S1, s1, en.ext e1, WSs_mono (orcE_mono T k cur) b _ _ _ _ (ends_ext e1) q1⟩
    · cases h
  | .whil t b, c, cur, X, Wx, g, hst, hfr, st, h => by
    simp only [ckS] at h
    split at h
    · obtain ⟨h, hh⟩ := ba h
      have hh : c.hot = false := by simpa using hh
      obtain ⟨h1, h2⟩ := ba h
      refine (ps_while (g.pass hh) (sndT _ t X Wx g _ h1) (sndSs b c cur X Wx g hst hfr _ h2)).weak fun D σ H ⟨F, β, Γ, S, s, en, n, q⟩ => ?_
      refine ⟨fun m σ H => ∃ F' β' Γ S, Ext F β F' β' ∧ Sim X.K cA F' β' S H ∧ EnvR X.K F' β' Γ σ ∧
        whN (fun Γ S P => WT (orcE T k cur) t Γ S P (fun x S1 => (ends X.K cA Wx F β D).ex x Γ S1)) (fun Nx Γ S => WSs (orcE T k cur) b { ends X.K cA Wx F β D with nx := Nx, ct := Nx, bk := (ends X.K cA Wx F β D).nx } Γ S) (ends X.K cA Wx F β D).nx m Γ S,
        ⟨n, F, β, Γ, S, Ext.refl _ _, s, en, q⟩, ?_⟩
      rintro m σ H ⟨F1, β1, Γ, S, e1, s1, en1, q⟩
      cases m with
      | zero => exact q.elim
      | succ m =>
        refine runT (orcE_mono T k cur) s1 en1 q (fun c' S' z => ex_post (D := D) en1 c' S' (postG_ext e1 _ _ z)) fun F2 β2 S2 H2 v e2 s2 q2 => ?_
        cases v with
        | false => exact q2 F2 β2 H2 _ (e1.trans e2) s2 (en1.ext e2)
        | true =>
          refine ⟨_, fun σ' H' z => ⟨m, Nat.lt_succ_self m, z⟩, F2, β2, Γ, S2, s2, en1.ext e2, ?_⟩
          refine WSs_mono (orcE_mono T k cur) b _ _ _ _ ⟨?_, fun v S h => post_ext (e1.trans e2) h, postG_ext (e1.trans e2), ?_, fun c => postG_ext (e1.trans e2)⟩ q2
          · exact fun Γ3 S3 z F3 β3 H3 σ3 e3 s3 g3 => ⟨F3, β3, Γ3, S3, e1.trans (e2.trans e3), s3, g3, z⟩
          · exact fun Γ3 S3 z F3 β3 H3 σ3 e3 s3 g3 => ⟨F3, β3, Γ3, S3, e1.trans (e2.trans e3), s3, g3, z⟩
    · cases h
  | .raise x, c, cur, X, Wx, g, hst, hfr, st, h => by
    simp only [ckS] at h
    split at h
    · obtain ⟨h, hh⟩ := ba h
      have hh : c.hot = false := by simpa using hh
      obtain ⟨h, h3⟩ := ba h
      obtain ⟨h1, h2⟩ := ba h
      have hx := of_decide_eq_true h1
      subst hx
      obtain ⟨gC, xC, kC, rC⟩ := g.exc _ (by simpa using h3)
      refine (ps_raise (g.calm hh) g.tk (pmk_own PySem.F.excBase_ValueError xC gC kC rC (g.gl _ h2) (by have := (ba (ba h2).1).2; simpa using this))).weak fun D σ H ⟨F, β, Γ, S, s, en, q⟩ => ?_
      exact q F β H _ (Ext.refl _ _) s en
    · cases h
  | .asg tg e, c, cur, X, Wx, g, hst, hfr, st, h => by
    simp only [ckS] at h
    split at h
    · obtain ⟨h, hh⟩ := ba h
      have hh : c.hot = false := by simpa using hh
      obtain ⟨h, h4⟩ := ba h
      obtain ⟨h, h3⟩ := ba h
      obtain ⟨h1, h2⟩ := ba h
      refine (ps_asg (sndE _ e X Wx g _ h2) (sndG (cA := cA) tg X g.hN g.nd g.loc (g.calm hh) _ h1) (noComp_sole h3 _ _ _) (noTup_sw h4 _)).weak fun D σ H ⟨F, β, Γ, S, s, en, q⟩ => ?_
      refine runE (orcE_mono T k cur) s en q (ex_post en) fun F1 β1 S1 H1 v x e1 s1 r1 ⟨Γ1, hb, q1⟩ => ?_
      exact ⟨F1, β1, Γ, S1, v, Γ1, s1, en.ext e1, r1, hb, fun σ' en' _ _ => q1 F1 β1 H1 _ e1 s1 en'⟩
    · cases h
  | .setSub o i e, c, cur, X, Wx, g, hst, hfr, st, h => by
    simp only [ckS] at h
    split at h
    · obtain ⟨h, h4⟩ := ba h
      obtain ⟨h, h3⟩ := ba h
      obtain ⟨h1, h2⟩ := ba h
      refine (ps_asg (sndE _ e X Wx g _ h3) (pg_sub (sndE _ o X Wx g _ h1) (sndE _ i X Wx g _ h2) (set_or (by have := g.u65; omega)) (noSlice_asg h4 _ _ _)) sub_sole rfl).weak fun D σ H ⟨F, β, Γ, S, s, en, q⟩ => ?_
      refine runE (orcE_mono T k cur) s en q (ex_post en) fun F1 β1 S1 H1 v x e1 s1 r1 q1 => ?_
      refine runE (orcE_mono T k cur) s1 (en.ext e1) q1 (fun c' S' z => postX_ext e1 c' S' (ex_post en c' S' z)) fun F2 β2 S2 H2 u y e2 s2 r2 q2 => ?_
      refine runE (orcE_mono T k cur) s2 (en.ext (e1.trans e2)) q2 (fun c' S' z => postX_ext (e1.trans e2) c' S' (ex_post en c' S' z)) fun F3 β3 S3 H3 w z e3 s3 r3 ⟨kk, eu, ob, h0, ob', hp, q3⟩ => ?_
      subst eu
      have eE := e1.trans (e2.trans e3)
      cases ob with
      | lst xs =>
        cases w with
        | int j =>
          obtain ⟨n, h6, h7⟩ := Option.map_eq_some_iff.mp hp
          subst h7
          obtain ⟨a, ys, rfl, ha, e5, q5⟩ := loc_ok s3 h0 (r2.ext e3)
          cases r3
          refine .inl ⟨a, ys, j, n, rfl, rfl, e5, by rw [← q5.len]; exact h6, ?_⟩
          exact q3 F3 β3 _ _ eE (put_lst s3 h0 ha (q5.set n (r1.ext (e2.trans e3)))) (en.ext eE)
        | _ => cases hp
      | dct kvs =>
        simp only [putO] at hp
        split at hp
        · rename_i kq hk
          split at hp
          · rename_i hl
            cases hp
            obtain ⟨a, ys, rfl, ha, _, e5, q5⟩ := dct_ok s3 h0 (r2.ext e3)
            refine .inr ⟨a, _, rfl, by rw [kV_keyV hk r3]; exact .k e5 (by rw [← q5.len]; exact Nat.lt_trans hl (by decide)), ?_⟩
            exact q3 F3 β3 _ _ eE (put_dct s3 h0 ha (q5.put (r1.ext (e2.trans e3)))) (en.ext eE)
          · cases hp
        · cases hp
      | _ => cases hp
    · cases h
  | .aug i op e, c, cur, X, Wx, g, hst, hfr, st, h => by
    simp only [ckS] at h
    split at h
    · obtain ⟨h, h4⟩ := ba h
      obtain ⟨h, h3⟩ := ba h
      obtain ⟨h1, h2⟩ := ba h
      obtain ⟨h3, h8⟩ := ba h3
      obtain ⟨hl, hf⟩ := g.loc _ h2
      have hi := of_decide_eq_true h1
      rw [← g.hN] at hi
      have key : ∀ (f : Int → Int → Int), (∀ n m : Int, augI op n m = some (f n m)) → ∀ D σ H, liftS X.K cA Wx (WS (orcE T k cur) (.aug i op e)) D σ H → tAug i (liftE X.K cA Wx (W (orcE T k cur) e)) (ipI f) D σ H := by
        rintro f hf D σ H ⟨F, β, Γ, S, s, en, x, hx, q⟩
        obtain ⟨y, e0, r⟩ := en.get hx
        refine ⟨y, e0, ?_⟩
        refine runE (orcE_mono T k cur) s en q (ex_post en) fun F1 β1 S1 H1 v z e1 s1 r1 ⟨n, ex, m, ev, r', hr, q1⟩ => ?_
        subst ex ev
        cases r; cases r1
        rw [hf] at hr
        cases hr
        exact ⟨n, m, rfl, rfl, q1 F1 β1 H1 _ e1 s1 ((en.ext e1).set (v := .int _) rfl)⟩
      cases op with
      | add =>
        unfold bopB at h3
        split at h3 <;> first | cases h3 | skip
        all_goals simp only [reduceCtorEq] at *
        exact (ps_aug (i := i) g.nd hi hl (sndE _ e X Wx g _ h4) ip_add hf).weak (key _ fun _ _ => rfl)
      | sub =>
        unfold bopB at h3
        split at h3 <;> first | cases h3 | skip
        all_goals simp only [reduceCtorEq] at *
        exact (ps_aug (i := i) g.nd hi hl (sndE _ e X Wx g _ h4) ip_sub hf).weak (key _ fun _ _ => rfl)
      | _ => simp at h8
    · cases h
  | .setC i own elt tg it cond, c, cur, X, Wx, g, hst, hfr, st, h => by
    simp only [ckS] at h
    split at h
    · rename_i x p elt' tg' it' ifs scope pos spos
      obtain ⟨hh, h⟩ := ba h
      obtain ⟨hi, hsw⟩ := ba hh
      obtain ⟨hq, hi⟩ := ba hi
      have hh : c.hot = false := by simpa using hq
      obtain ⟨h, h6⟩ := ba h
      obtain ⟨h, h5⟩ := ba h
      obtain ⟨h, h4⟩ := ba h
      obtain ⟨h, h3⟩ := ba h
      obtain ⟨h1, h2⟩ := ba h
      have hblk : BlkOk X.N X.env.scope scope (ownA c.N own) := by
        rw [g.hN, g.sc]; exact blkOk_by h1
      obtain ⟨hy, hsw2⟩ := yesSwap_sw (env := X.env) (by rw [g.sc]; exact g.kind) (by rw [g.sc]; exact hsw) spos.line
      refine (ps_setLc (i := i) (g := liftG X.K cA (tgS tg) fun S v Γ => bindT S tg v Γ) (tt := liftT X.K cA (fun _ _ _ _ => False) (fun Γ S P _ => WT0 (orcE T k cur) cond Γ S P)) (te := liftE X.K cA (fun _ _ _ _ => False) (W (orcE T k cur) elt)) (g.calm hh) g.nd (by rw [g.hN]; exact of_decide_eq_true hi) hy hsw2 (sndI _ it X Wx g _ _ h2) hblk (fun s H C cl fp => sndG tg _ (g.inn hblk.kind s H C cl fp hh).hN g.nd (g.inn hblk.kind s H C cl fp hh).loc (g.calm hh) _ h3)
        (fun s H C cl fp => sndT0 _ cond _ _ (g.inn hblk.kind s H C cl fp hh) _ h5) (fun s H C cl fp => sndE _ elt _ _ (g.inn hblk.kind s H C cl fp hh) _ h6) (ckI_fold h2 X.env)).weak fun D σ H ⟨F, β, Γ, S, s, en, q⟩ => ?_
      refine runI (orcE_mono T k cur) s en q (ex_post en) fun F1 β1 S1 H1 J xs G e1 s1 i1 ⟨q0, q1⟩ => ?_
      rw [ownA_ix]
      refine comp_ok (F := F) (β := β) (Q := fun x H' => D.nx (σ.set i (some x)) H') (orcE_mono T k cur) e1 s1 (en.ext e1) i1 ⟨q0, cpL_mono (fun Γ S P P' hp q => WT0_mono (orcE_mono T k cur) cond Γ S P P' hp q) (fun Γ S P P' hp q => W_mono (orcE_mono T k cur) elt Γ S P P' _ _ hp (fun _ _ z => z) q) (fun v S2 z => ?_) xs _ q1⟩ (fun i hi => by have := List.all_eq_true.mp h4 i hi; simpa using this)
      exact fun F' β' H' x e' s' r' => z F' β' H' _ e' s' ((en.ext e').set r')
    · cases h
  | .for_ tg it b, c, cur, X, Wx, g, hst, hfr, st, h => by
    simp only [ckS] at h
    split at h
    · obtain ⟨h, hh⟩ := ba h
      have hh : c.hot = false := by simpa using hh
      obtain ⟨h, h3⟩ := ba h
      obtain ⟨h1, h2⟩ := ba h
      refine (ps_for (g.pass hh) (g.calm hh) (sndI _ it X Wx g _ _ h1) (sndG (cA := cA) tg X g.hN g.nd g.loc (g.calm hh) _ h2) (sndSs b c cur X Wx g hst hfr _ h3) (ckI_fold h1 X.env)).weak fun D σ H ⟨F, β, Γ, S, s, en, q⟩ => ?_
      refine runI (orcE_mono T k cur) s en q (ex_post en) fun F1 β1 S1 H1 J xs G e1 s1 i1 ⟨q0, q1⟩ => ?_
      refine ⟨fun i m σ H => m = xs.length - i ∧ i ≤ xs.length ∧ ∃ F' β' Γ S', Ext F1 β1 F' β' ∧ Sim X.K cA F' β' S' H ∧ EnvR X.K F' β' Γ σ ∧ G S' ∧
        frL (fun x Γ S => bindT S tg x Γ) (fun Nx Γ S => WSs (orcE T k cur) b { ends X.K cA Wx F β D with nx := Nx, ct := Nx, bk := (ends X.K cA Wx F β D).nx } Γ S) G (ends X.K cA Wx F β D).nx (xs.drop i) Γ S',
        ⟨xs.length, rfl, Nat.zero_le _, F1, β1, Γ, S1, Ext.refl _ _, s1, en.ext e1, q0, q1⟩, ?_⟩
      rintro i m σ H ⟨rfl, hi, F', β', Γ', S', e', s', en', g', c'⟩
      by_cases hlt : i < xs.length
      · refine .inr ⟨i1.go F' β' S' H i e' s' g' hlt, fun σ' H' => ∃ F' β' Γ S', Ext F1 β1 F' β' ∧ Sim X.K cA F' β' S' H' ∧ EnvR X.K F' β' Γ σ' ∧ G S' ∧
          frL (fun x Γ S => bindT S tg x Γ) (fun Nx Γ S => WSs (orcE T k cur) b { ends X.K cA Wx F β D with nx := Nx, ct := Nx, bk := (ends X.K cA Wx F β D).nx } Γ S) G (ends X.K cA Wx F β D).nx (xs.drop (i + 1)) Γ S',
          fun σ' H' z => ⟨xs.length - (i + 1), by omega, rfl, hlt, z⟩, fun x H' hy => ?_⟩
        obtain ⟨F2, v, hv, e2, s2, r2⟩ := i1.yld F' β' S' H i x H' e' s' g' hlt hy
        have hd : xs.drop i = v :: xs.drop (i + 1) := by
          rw [List.drop_eq_getElem_cons hlt]
          rw [List.getElem?_eq_getElem hlt] at hv
          cases hv; rfl
        rw [hd] at c'
        obtain ⟨Γ1, hb, ht⟩ := c'
        refine ⟨F2, β', Γ', S', v, Γ1, s2, en'.ext e2, r2, hb, fun σ2 en2 _ _ => ⟨F2, β', Γ1, S', s2, en2, ?_⟩⟩
        have eF : Ext F β F2 β' := e1.trans (e'.trans e2)
        refine WSs_mono (orcE_mono T k cur) b _ _ _ _ ⟨?_, fun v S h => post_ext eF h, postG_ext eF, ?_, fun c => postG_ext eF⟩ ht
        · exact fun Γ3 S3 z F3 β3 H3 σ3 e3 s3 g3 => ⟨F3, β3, Γ3, S3, (e'.trans e2).trans e3, s3, g3, z.1, z.2⟩
        · exact fun Γ3 S3 z F3 β3 H3 σ3 e3 s3 g3 => ⟨F3, β3, Γ3, S3, (e'.trans e2).trans e3, s3, g3, z.1, z.2⟩
      · have ei : i = xs.length := by omega
        subst ei
        refine .inl ⟨i1.stop F' β' S' H e' s' g', ?_⟩
        rw [List.drop_length] at c'
        exact c' F' β' H σ (e1.trans e') s' en'
    · cases h
  | .setFld o f e, c, cur, X, Wx, g, hst, hfr, st, h => by
    simp only [ckS] at h
    split at h
    · obtain ⟨h, h3⟩ := ba h
      obtain ⟨h1, h2⟩ := ba h
      have hx := of_decide_eq_true h1
      subst hx
      refine (ps_fld (sndE _ o X Wx g _ h2) (sndE _ e X Wx g _ h3) att_sw).weak fun D σ H ⟨F, β, Γ, S, s, en, q⟩ => ?_
      refine runE (orcE_mono T k cur) s en q (ex_post en) fun F1 β1 S1 H1 v x e1 s1 r1 q1 => ?_
      refine runE (orcE_mono T k cur) s1 (en.ext e1) q1 (fun c' S' z => postX_ext e1 c' S' (ex_post en c' S' z)) fun F2 β2 S2 H2 u y e2 s2 r2 ⟨kk, eu, ob, h0, ob', hp, q2⟩ => ?_
      subst eu
      obtain ⟨cc, fs, rfl, rfl, hn, hl⟩ := putFO_ok hp
      obtain ⟨hc, hn⟩ := g.noat _ (noat_mem hn)
      obtain ⟨a, dx, ys, rfl, ha, _, e5, q5⟩ := ins_ok s2 h0 r2
      have eE := e1.trans e2
      exact ⟨a, _, dx, ys, rfl, e5, hc, hn, by rw [← q5.len]; exact hl, q2 F2 β2 _ _ eE (put_ins s2 h0 ha (q5.put (r1.ext e2))) (en.ext eE)⟩
    · cases h
  | .augFld o f op e, c, cur, X, Wx, g, hst, hfr, st, h => by
    simp only [ckS] at h
    split at h
    · obtain ⟨h, h4⟩ := ba h
      obtain ⟨h, h3⟩ := ba h
      obtain ⟨h1, h2⟩ := ba h
      have hx := of_decide_eq_true h1
      subst hx
      by_cases hop : op = .add
      · subst hop
        unfold bopB at h2
        split at h2 <;> first | cases h2 | skip
        all_goals simp only [reduceCtorEq] at *
        refine (ps_fldaug (sndE _ o X Wx g _ h3) (sndE _ e X Wx g _ h4) in_add).weak fun D σ H ⟨F, β, Γ, S, s, en, _, q⟩ => ?_
        refine runE (orcE_mono T k cur) s en q (ex_post en) fun F1 β1 S1 H1 u y e1 s1 r1 ⟨kk, eu, ob, h0, w, hw, q1⟩ => ?_
        subst eu
        obtain ⟨cc, fs, rfl, hn, hl⟩ := fldO_ok hw
        obtain ⟨hc, hn'⟩ := g.noat _ (noat_mem hn)
        obtain ⟨a, dx, ys, rfl, ha, _, e5, q5⟩ := ins_ok s1 h0 r1
        obtain ⟨z, hz, rz⟩ := q5.get.1 w hl
        refine ⟨a, _, dx, ys, z, rfl, e5, hc, hn', hz, ?_⟩
        refine runE (orcE_mono T k cur) s1 (en.ext e1) q1 (fun c' S' z => postX_ext e1 c' S' (ex_post en c' S' z)) fun F2 β2 S2 H2 v x e2 s2 r2 ⟨n, e6, m, e7, ob2, h8, ec, ob', hp, q2⟩ => ?_
        subst e6 e7
        cases rz; cases r2
        obtain ⟨cc2, fs2, rfl, rfl, hn2, hl2⟩ := putFO_ok hp
        obtain ⟨a2, dx2, ys2, ea, ha2, _, e9, q9⟩ := ins_ok s2 h8 (x := .ref a) ⟨a, rfl, pre_get e2.pre ha⟩
        cases ea
        have eE := e1.trans e2
        have eC : cA cc2 = cA cc := congrArg cA ec
        refine ⟨n, m, rfl, rfl, dx2, ys2, by rw [e9, eC], by rw [← q9.len]; exact hl2, ?_⟩
        have := q2 F2 β2 _ _ eE (put_ins (dx := dx2) s2 h8 ha2 (q9.put (v := .int (n + m)) (y := .int (n + m)) rfl)) (en.ext eE)
        rw [← eC]; exact this
      · exact ⟨fun pins s σ H D I ⟨F, β, Γ, S, si, en, q0, q⟩ => absurd q0 hop⟩
    · cases h
  | .lck m, c, cur, X, Wx, g, hst, hfr, st, h => by
    simp only [ckS] at h
    refine (ps_lock (sndS m c cur X Wx g hst hfr _ h)).weak fun D σ H ⟨F, β, Γ, S, s, en, kk, kvs, hk, q⟩ => ?_
    obtain ⟨a, ha, fa, ys, e2, qq⟩ := s.at hk
    refine ⟨a, .dK ys, e2, trivial, fun od => ?_⟩
    obtain ⟨s1, sb⟩ := s.lock (od := od) (lt_of_get hk) ha fa qq (by rw [e2]; simp)
    have x1 : Ext F β (upd F a (.frz od (.dK ys))) β := ⟨sb, List.prefix_refl _⟩
    have key : ∀ {F2 β2 S2 H2}, Ext (upd F a (.frz od (.dK ys))) β F2 β2 → Sim X.K cA F2 β2 S2 H2 → S2[kk]? = some (.lok kvs) → H2 a = some (.frz od (.dK ys)) ∧ Ext F β (dropF F2 a) β2 ∧ Sim X.K cA (dropF F2 a) β2 (S2.set kk (.dct kvs)) (upd H2 a (.dK ys)) ∧ KeepF F2 (dropF F2 a) := fun {F2 β2 S2 H2} e3 s2 h3 => by
      have f2 := e3.sub a _ upd_same
      obtain ⟨s3, kf⟩ := s2.unlock h3 (pre_get e3.pre ha) f2
      exact ⟨s2.sub a _ f2, ext_drop fa (x1.trans e3), s3, kf⟩
    refine ⟨_, β, Γ, _, s1, en.ext x1, WS_mono (orcE_mono T k cur) m (lckD kk kvs (ends X.K cA Wx F β D)) _ _ _ ⟨?_, ?_, ?_, ?_, fun _ _ _ z => False.elim z⟩ q⟩
    · exact fun Γ2 S2 ⟨h3, q3⟩ F2 β2 H2 σ2 e3 s2 g2 => let ⟨z1, z2, z3, kf⟩ := key e3 s2 h3; ⟨z1, q3 _ _ _ _ z2 z3 (EnvR.unf kf _ _ g2)⟩
    · exact fun v S2 ⟨h3, q3⟩ F2 β2 H2 x e3 s2 r2 => let ⟨z1, z2, z3, kf⟩ := key e3 s2 h3; ⟨z1, q3 _ _ _ _ z2 z3 (VR.unf kf _ _ r2)⟩
    · exact fun Γ2 S2 ⟨h3, q3⟩ F2 β2 H2 σ2 e3 s2 g2 => let ⟨z1, z2, z3, kf⟩ := key e3 s2 h3; ⟨z1, q3 _ _ _ _ z2 z3 (EnvR.unf kf _ _ g2)⟩
    · exact fun Γ2 S2 ⟨h3, q3⟩ F2 β2 H2 σ2 e3 s2 g2 => let ⟨z1, z2, z3, kf⟩ := key e3 s2 h3; ⟨z1, q3 _ _ _ _ z2 z3 (EnvR.unf kf _ _ g2)⟩
  | .try_ b x o su, c, cur, X, Wx, g, hst, hfr, st, h => by
    simp only [ckS] at h
    split at h
    · rename_i bd y np nm s0 ss hp pos
      obtain ⟨h, hh⟩ := ba h
      have hh : c.hot = false := by simpa using hh
      obtain ⟨h, h5⟩ := ba h
      obtain ⟨h, h4⟩ := ba h
      obtain ⟨h, h3⟩ := ba h
      obtain ⟨h1, h2⟩ := ba h
      have hx := of_decide_eq_true h1
      subst hx
      have hdb : (y == ("__debug__" : Str)) = false := by have := (ba (ba h2).1).2; simpa using this
      by_cases hcl : ∃ p ∈ T.xk, p.2.1 = y
      · obtain ⟨p0, hp0, ey⟩ := hcl
        obtain ⟨w0, cv, k1, k2, _, _, _⟩ := g.xk p0 hp0
        rw [ey] at k2
        have hNm : Names X y cv := ⟨g.gl _ h2, hdb, k2⟩
        have hex : ∀ {c' : Str} {kk : Bool}, (orcE T k cur).xk c' y = some kk → PySem.W.exmOne X.K (.ref (cA c')) cv = some kk := fun {c' kk} hk => by
          obtain ⟨w, cv', j1, j2, j3, j4, j5⟩ := g.xk _ (xk_mem hk)
          have : cv' = cv := by
            rcases j2 with j2 | ⟨j2, j2', _⟩ <;> rcases k2 with k2 | ⟨k2, k2', _⟩
            · exact Option.some.inj (j2.symm.trans k2)
            · rw [k2] at j2; cases j2
            · rw [k2] at j2; cases j2
            · exact Option.some.inj (j2'.symm.trans k2')
          rw [this] at j5
          exact j5
        have hbd : ∀ (W : WX) (pn : List (Addr × Obj)) (xe : Value → Shared → Prop), Takes (X.tr pn xe) W → PassesOwn (model X.prog X.w) X.A X.env xe → PSs (X.tr pn xe) bd (liftS X.K cA W (WSs (orcE T k cur) b)) := fun W pn xe tk pa =>
          sndSs b c cur (X.tr pn xe) W ⟨g.hN, g.nd, g.sc, g.kind, g.loc, g.calm, g.room, g.un, tk, fun _ => pa, g.nc, (fun a z e => by rw [g.nc hh] at e; cases e), g.xk, g.blt, g.fn, g.exc, g.glo, g.noat, g.meth, g.init, g.isa, g.gdc, g.lam, g.fnall, g.ndk, g.clo, g.up⟩ hst hfr bd h3
        have hsu : ∀ (a : Addr) (oe : Obj) (cls : Value) (d : Option Addr) (pn : List (Addr × Obj)), Zc cls d oe → (∃ vs, oe.data = .fields vs) → PSs (X.suite a ((a, oe) :: pn)) (s0 :: ss) (fun D σ H => d = none ∧ ∃ c', cls = .ref (cA c') ∧ liftS X.K cA (fun _ _ _ _ => False) (WSs (orcE T k (some (a, c'))) su) D σ H) := fun a oe cls d pn hz hf =>
          ⟨fun pins s σ H D I ⟨ed, c', ec, q⟩ => by
            subst ed ec
            exact (sndSs su { c with hot := true } (some (a, c')) (X.suite a ((a, oe) :: pn)) (fun _ _ _ _ => False) ⟨g.hN, g.nd, g.sc, g.kind, g.loc, fun z => (nomatch z), fun z => (nomatch z), g.un, (by
              rintro u s' ⟨_, _, _, _, _, _, _, _, _, _, _, _, _, _, _, _, z⟩
              exact z.elim), fun z => (nomatch z), fun z => (nomatch z), fun a2 z e => by
                cases e
                exact ⟨oe, List.mem_cons_self, hz, hf⟩, g.xk, g.blt, g.fn, g.exc, g.glo, g.noat, g.meth, g.init, g.isa, g.gdc, g.lam, g.fnall, g.ndk, g.clo, g.up⟩ hst hfr (s0 :: ss) h4).run pins s σ H D I q⟩
        cases o with
        | none =>
          cases nm with
          | some n => cases h5
          | none =>
            refine (ps_try_only hst hfr hNm g.tk hbd hsu).weak fun D σ H ⟨F, β, Γ, S, s, en, q⟩ => ?_
            refine ⟨F, β, Γ, S, s, en, WSs_mono (orcE_mono T k cur) b ({ ends X.K cA Wx F β D with ex := fun c' Γ' S' => ∃ kk, (orcE T k cur).xk c' y = some kk ∧ if kk = true then ∀ a, WSs { orcE T k cur with cur := some (a, c') } su (offD none (ends X.K cA Wx F β D)) (onE none a Γ') S' else (ends X.K cA Wx F β D).ex c' Γ' S' }) _ _ _ ⟨fun _ _ z => z, fun _ _ z => z, fun _ _ z => z, fun _ _ z => z, fun c' Γ' S' ⟨kk, h6, h7⟩ => ?_⟩ q⟩
            intro F' β' H' σ' e' s' g'
            refine ⟨kk, hex h6, fun ek a ha => ?_, fun ek => ?_⟩
            · subst ek
              exact ⟨rfl, c', rfl, F', β', Γ', S', s', g', WSs_mono (orcE_mono T k _) su _ _ _ _ ⟨fun Γ2 S2 z => postG_ext e' _ _ z, fun v S2 z => post_ext e' z, fun Γ2 S2 z => postG_ext e' _ _ z, fun Γ2 S2 z => postG_ext e' _ _ z, fun _ _ _ z => False.elim z⟩ (h7 a)⟩
            · subst ek
              exact h7 F' β' H' σ' e' s' g'
        | some i =>
          cases nm with
          | none => cases h5
          | some n =>
            obtain ⟨j1, j2⟩ := ba h5
            have hi : X.N[i]? = some n := by rw [g.hN]; exact of_decide_eq_true j1
            have hl : X.env.kindOf n = some .local := by
              show X.env.scope.names.lookup n = _
              rw [g.sc]; exact of_decide_eq_true j2
            refine (ps_try_as hst hfr g.nd hi hl hNm g.tk hbd hsu).weak fun D σ H ⟨F, β, Γ, S, s, en, q⟩ => ?_
            refine ⟨F, β, Γ, S, s, en, WSs_mono (orcE_mono T k cur) b ({ ends X.K cA Wx F β D with ex := fun c' Γ' S' => ∃ kk, (orcE T k cur).xk c' y = some kk ∧ if kk = true then ∀ a, WSs { orcE T k cur with cur := some (a, c') } su (offD (some i) (ends X.K cA Wx F β D)) (onE (some i) a Γ') S' else (ends X.K cA Wx F β D).ex c' Γ' S' }) _ _ _ ⟨fun _ _ z => z, fun _ _ z => z, fun _ _ z => z, fun _ _ z => z, fun c' Γ' S' ⟨kk, h6, h7⟩ => ?_⟩ q⟩
            intro F' β' H' σ' e' s' g'
            refine ⟨kk, hex h6, fun ek a ha => ?_, fun ek => ?_⟩
            · subst ek
              refine ⟨rfl, c', rfl, F', β', Γ'.set i (some (.exc a)), S', s', g'.set rfl, WSs_mono (orcE_mono T k _) su _ _ _ _ ⟨fun Γ2 S2 z F3 β3 H3 σ3 e3 s3 g3 => ?_, fun v S2 z => post_ext e' z, fun Γ2 S2 z F3 β3 H3 σ3 e3 s3 g3 => ?_, fun Γ2 S2 z F3 β3 H3 σ3 e3 s3 g3 => ?_, fun _ _ _ z => False.elim z⟩ (h7 a)⟩
              · exact z F3 β3 H3 _ (e'.trans e3) s3 g3.wipe1
              · exact z F3 β3 H3 _ (e'.trans e3) s3 g3.wipe1
              · exact z F3 β3 H3 _ (e'.trans e3) s3 g3.wipe1
            · subst ek
              exact h7 F' β' H' σ' e' s' g'
      · have hnone : ∀ c', (orcE T k cur).xk c' y = none := fun c' => by
          cases e : (orcE T k cur).xk c' y with
          | none => rfl
          | some kk => exact absurd ⟨_, xk_mem e, rfl⟩ hcl
        have hbd : PSs X.nox bd (liftS X.K cA (fun _ _ _ _ => False) (WSs (orcE T k cur) b)) :=
          sndSs b c cur X.nox (fun _ _ _ _ => False) ⟨g.hN, g.nd, g.sc, g.kind, g.loc, g.calm, g.room, g.un, (by
            rintro u s' ⟨_, _, _, _, _, _, _, _, _, _, _, _, _, _, _, _, z⟩
            exact z.elim), fun _ => PassesOwn.never, g.nc, (fun a z e => by rw [g.nc hh] at e; cases e), g.xk, g.blt, g.fn, g.exc, g.glo, g.noat, g.meth, g.init, g.isa, g.gdc, g.lam, g.fnall, g.ndk, g.clo, g.up⟩ hst hfr bd h3
        refine (ps_try_thru0 hbd).weak fun D σ H ⟨F, β, Γ, S, s, en, q⟩ => ?_
        refine ⟨F, β, Γ, S, s, en, WSs_mono (orcE_mono T k cur) b ({ ends X.K cA Wx F β D with ex := fun c' Γ' S' => ∃ kk, (orcE T k cur).xk c' y = some kk ∧ if kk = true then ∀ a, WSs { orcE T k cur with cur := some (a, c') } su (offD o (ends X.K cA Wx F β D)) (onE o a Γ') S' else (ends X.K cA Wx F β D).ex c' Γ' S' }) _ _ _ ⟨fun _ _ z => z, fun _ _ z => z, fun _ _ z => z, fun _ _ z => z, fun c' Γ' S' ⟨kk, h6, h7⟩ => ?_⟩ q⟩
        rw [hnone] at h6
        cases h6
    · cases h
theorem sndSs : ∀ (m : Sms) (c : Ctx) (cur : Option (Addr × Str)) (X : Cx) (Wx : WX), Gd c cA T k cur Wx X → X.stack = X.env :: X.outer → X.env.frame = some X.env.locals → ∀ (st : List Stmt), ckSs c m st = true → PSs X st (liftS X.K cA Wx (WSs (orcE T k cur) m))
  | .nil, c, cur, X, Wx, g, hst, hfr, st, h => by
    simp only [ckSs] at h
    split at h
    · exact pss_nil.weak fun D σ H ⟨F, β, Γ, S, s, en, q⟩ => q F β H _ (Ext.refl _ _) s en
    · cases h
  | .cons m ms, c, cur, X, Wx, g, hst, hfr, st, h => by
    simp only [ckSs] at h
    split at h
    · obtain ⟨h1, h2⟩ := ba h
      refine (pss_cons (sndS m c cur X Wx g hst hfr _ h1) (sndSs ms c cur X Wx g hst hfr _ h2)).weak fun D σ H ⟨F, β, Γ, S, s, en, q⟩ => ?_
      refine ⟨F, β, Γ, S, s, en, WS_mono (orcE_mono T k cur) m { ends X.K cA Wx F β D with nx := fun Γ S => WSs (orcE T k cur) ms (ends X.K cA Wx F β D) Γ S } (ends X.K cA Wx F β { D with nx := liftS X.K cA Wx (WSs (orcE T k cur) ms) D }) _ _ ⟨?_, fun _ _ z => z, fun _ _ z => z, fun _ _ z => z, fun _ _ _ z => z⟩ q⟩
      exact fun Γ1 S1 z F1 β1 H1 σ1 e1 s1 g1 => ⟨F1, β1, Γ1, S1, s1, g1, WSs_mono (orcE_mono T k cur) ms _ _ _ _ (ends_ext e1) z⟩
    · cases h
end
end

/-! ### the store cut -/
section
variable {K : PySem.W.Frag} {F F' : Hp} {β : List Addr}
mutual
theorem VR.cl : ∀ (v : Va) (x : V), VR K F β v x → Cl β.length v
  | .exc _, _, _ => trivial
  | .fnv z ws, _, ⟨_, _, r⟩ => VRs.cl ws z.xs r
  | .non, _, _ => trivial
  | .bl _, _, _ => trivial
  | .int _, _, _ => trivial
  | .str _, _, _ => trivial
  | .scr _, _, _ => trivial
  | .tup xs, _, ⟨_, ys, _, _, r⟩ => VRs.cl xs ys r
  | .lst xs, _, ⟨_, ys, _, _, r⟩ => VRs.cl xs ys r
  | .dct xs, _, ⟨_, ys, _, _, r⟩ => VRk.cl xs ys r
  | .loc n, _, ⟨_, _, r⟩ => lt_of_get r
theorem VRs.cl : ∀ (v : List Va) (x : List V), VRs K F β v x → Cls_ β.length v
  | [], _, _ => trivial
  | v :: vs, _, ⟨y, r, _, q, qs⟩ => ⟨VR.cl v y q, VRs.cl vs r qs⟩
theorem VRk.cl : ∀ (v : List (Key × Va)) (x : List (Key × V)), VRk K F β v x → Clk β.length v
  | [], _, _ => trivial
  | (k, v) :: vs, _, ⟨y, r, _, q, qs⟩ => ⟨VR.cl v y q, VRk.cl vs r qs⟩
end
theorem VRf.cl : ∀ (v : List (Str × Va)) (x : List (Str × V)), VRf K F β v x → Clf β.length v
  | [], _, _ => trivial
  | (k, v) :: vs, _, ⟨y, r, _, q, qs⟩ => ⟨VR.cl v y q, VRf.cl vs r qs⟩
theorem OR.cl {cA : Str → Addr} {H : Hp} : ∀ (o : Ob) (a : Addr), OR K F β cA H o a → ClO β.length o
  | .lst xs, _, ⟨ys, _, r⟩ => VRs.cl xs ys r
  | .dct xs, _, ⟨ys, _, r⟩ => VRk.cl xs ys r
  | .ins C fs, _, ⟨_, ys, _, r⟩ => VRf.cl fs ys r
  | .lok xs, _, ⟨_, ys, _, r⟩ => VRk.cl xs ys r
  | .dead, _, _ => trivial
  | .tab _, _, _ => trivial
theorem take_get {n i : Nat} {a : Addr} (h : β[i]? = some a) (hi : i < n) : (β.take n)[i]? = some a := by
  rw [List.getElem?_take, if_pos hi]; exact h
section
variable {n : Nat} (hF : Same F F')
include hF
mutual
theorem VR.cut : ∀ (v : Va) (x : V), VR K F β v x → Cl n v → VR K F' (β.take n) v x
  | .exc _, _, q, _ => q
  | .fnv z ws, _, ⟨e, q, r⟩, h => ⟨e, hF _ _ q, VRs.cut ws z.xs r h⟩
  | .non, _, q, _ => q
  | .bl _, _, q, _ => q
  | .int _, _, q, _ => q
  | .str _, _, q, _ => q
  | .tup xs, _, ⟨a, ys, e, t, r⟩, h => ⟨a, ys, e, SqT.mono hF t, VRs.cut xs ys r h⟩
  | .lst xs, _, ⟨a, ys, e, t, r⟩, h => ⟨a, ys, e, hF _ _ t, VRs.cut xs ys r h⟩
  | .dct xs, _, ⟨a, ys, e, t, r⟩, h => ⟨a, ys, e, hF _ _ t, VRk.cut xs ys r h⟩
  | .scr ns, _, ⟨a, e, t⟩, _ => ⟨a, e, SqL.mono hF t⟩
  | .loc k, _, ⟨a, e, r⟩, h => ⟨a, e, take_get r h⟩
theorem VRs.cut : ∀ (v : List Va) (x : List V), VRs K F β v x → Cls_ n v → VRs K F' (β.take n) v x
  | [], _, q, _ => q
  | v :: vs, _, ⟨y, r, e, q, qs⟩, ⟨h, hs⟩ => ⟨y, r, e, VR.cut v y q h, VRs.cut vs r qs hs⟩
theorem VRk.cut : ∀ (v : List (Key × Va)) (x : List (Key × V)), VRk K F β v x → Clk n v → VRk K F' (β.take n) v x
  | [], _, q, _ => q
  | (k, v) :: vs, _, ⟨y, r, e, q, qs⟩, ⟨h, hs⟩ => ⟨y, r, e, VR.cut v y q h, VRk.cut vs r qs hs⟩
end
theorem VRf.cut : ∀ (v : List (Str × Va)) (x : List (Str × V)), VRf K F β v x → Clf n v → VRf K F' (β.take n) v x
  | [], _, q, _ => q
  | (k, v) :: vs, _, ⟨y, r, e, q, qs⟩, ⟨h, hs⟩ => ⟨y, r, e, VR.cut hF v y q h, VRf.cut vs r qs hs⟩
theorem OR.cut {cA : Str → Addr} {H : Hp} : ∀ (o : Ob) (a : Addr), OR K F β cA H o a → ClO n o → OR K F' (β.take n) cA H o a
  | .lst xs, _, ⟨ys, e, r⟩, h => ⟨ys, e, VRs.cut hF xs ys r h⟩
  | .dct xs, _, ⟨ys, e, r⟩, h => ⟨ys, e, VRk.cut hF xs ys r h⟩
  | .ins C fs, _, ⟨dx, ys, e, r⟩, h => ⟨dx, ys, e, VRf.cut hF fs ys r h⟩
  | .lok xs, _, ⟨od, ys, e, r⟩, h => ⟨od, ys, hF _ _ e, VRk.cut hF xs ys r h⟩
  | .dead, _, _, _ => trivial
  | .tab _, _, ⟨e0, ps, e1, tt, r⟩, _ => ⟨e0, ps, e1, tt, fun p cv z => let ⟨c, e2, e3⟩ := r p cv z; ⟨c, e2, hF _ _ e3⟩⟩
end
end
section
variable {K : PySem.W.Frag} {cA : Str → Addr} {F : Hp} {β : List Addr} {S : Sto} {H : Hp} {n : Nat} {F' : Hp}
section
variable (s : Sim K cA F β S H) (hF : Same F F') (hK : ∀ k a, n ≤ k → β[k]? = some a → F' a = H a)
include s hF hK
mutual
theorem Fz.ok : ∀ (v' v : Va) (x : V), Fz S n v v' → VR K F β v x → VR K F' (β.take n) v' x
  | .exc _, v, x, h, r => by cases (show v = _ from h); exact r
  | .fnv z ys, v, x, ⟨xs, e, h⟩, r => by
    subst e
    obtain ⟨e, q, r⟩ := r
    exact ⟨e, hF _ _ q, Fzs.ok ys xs z.xs h r⟩
  | .non, v, x, h, r => by cases (show v = _ from h); exact r
  | .bl _, v, x, h, r => by cases (show v = _ from h); exact r
  | .int _, v, x, h, r => by cases (show v = _ from h); exact r
  | .str _, v, x, h, r => by cases (show v = _ from h); exact r
  | .tup ys, v, x, ⟨xs, e, h⟩, r => by
    subst e
    obtain ⟨a, zs, e, t, q⟩ := r
    exact ⟨a, zs, e, SqT.mono hF t, Fzs.ok ys xs zs h q⟩
  | .lst ys, v, x, ⟨xs, e, h⟩, r => by
    rcases e with e | ⟨k, e, hk, hs⟩
    · subst e
      obtain ⟨a, zs, e, t, q⟩ := r
      exact ⟨a, zs, e, hF _ _ t, Fzs.ok ys xs zs h q⟩
    · subst e
      obtain ⟨a, e, t⟩ := r
      obtain ⟨b, e1, _, zs, e2, q⟩ := s.at hs
      rw [t] at e1
      cases (Option.some.inj e1)
      exact ⟨a, zs, e, (hK k a hk t).trans e2, Fzs.ok ys xs zs h q⟩
  | .dct ys, v, x, ⟨xs, e, h⟩, r => by
    rcases e with e | ⟨k, e, hk, hs⟩
    · subst e
      obtain ⟨a, zs, e, t, q⟩ := r
      exact ⟨a, zs, e, hF _ _ t, Fzk.ok ys xs zs h q⟩
    · subst e
      obtain ⟨a, e, t⟩ := r
      obtain ⟨b, e1, _, zs, e2, q⟩ := s.at hs
      rw [t] at e1
      cases (Option.some.inj e1)
      exact ⟨a, zs, e, (hK k a hk t).trans e2, Fzk.ok ys xs zs h q⟩
  | .loc k, v, x, ⟨e, h⟩, r => by
    subst e
    obtain ⟨a, e, t⟩ := r
    exact ⟨a, e, take_get t h⟩
  | .scr ns, v, x, h, r => by
    cases (show v = _ from h)
    obtain ⟨a, e, t⟩ := r
    exact ⟨a, e, SqL.mono hF t⟩
theorem Fzs.ok : ∀ (v' v : List Va) (x : List V), Fzs S n v v' → VRs K F β v x → VRs K F' (β.take n) v' x
  | [], v, x, h, r => by cases (show v = [] from h); exact r
  | y :: ys, v, x, ⟨z, zs, e, h, hs⟩, r => by
    subst e
    obtain ⟨w, ws, e, q, qs⟩ := r
    exact ⟨w, ws, e, Fz.ok y z w h q, Fzs.ok ys zs ws hs qs⟩
theorem Fzk.ok : ∀ (v' v : List (Key × Va)) (x : List (Key × V)), Fzk S n v v' → VRk K F β v x → VRk K F' (β.take n) v' x
  | [], v, x, h, r => by cases (show v = [] from h); exact r
  | (k, y) :: ys, v, x, ⟨z, zs, e, h, hs⟩, r => by
    subst e
    obtain ⟨w, ws, e, q, qs⟩ := r
    exact ⟨w, ws, e, Fz.ok y z w h q, Fzk.ok ys zs ws hs qs⟩
end
end
end
section
variable {K : PySem.W.Frag} {cA : Str → Addr} {F F' : Hp} {β β' : List Addr} {S S' : Sto} {H H' : Hp}
theorem cut_ok (s : Sim K cA F β S H) (e : Ext F β F' β') (s' : Sim K cA F' β' S' H') (hl : S.length ≤ S'.length) (hc : ∀ (i : Nat) (o : Ob), i < S.length → S'[i]? = some o → S[i]? = some o ∨ ClO S.length o) :
    ∃ F2, Ext F β F2 (β'.take S.length) ∧ Sim K cA F2 (β'.take S.length) (S'.take S.length) H' ∧ Same F' F2 ∧ ∀ k a, S.length ≤ k → β'[k]? = some a → F2 a = H' a := by
  have sub : Same F' (fun a => if a ∈ β'.take S.length then F' a else H' a) := fun a o q => by
    show (if a ∈ β'.take S.length then F' a else H' a) = _
    by_cases z : a ∈ β'.take S.length
    · rw [if_pos z]; exact q
    · rw [if_neg z]; exact s'.sub a o q
  have hβ : β = β'.take S.length := by
    obtain ⟨t, rfl⟩ := e.pre
    rw [← s.len]; simp
  refine ⟨fun a => if a ∈ β'.take S.length then F' a else H' a, ⟨e.sub.trans sub, ?_⟩, ⟨fun a o q => ?_, by simp [s'.len], fun i j a e1 e2 => ?_, fun i o a e1 e2 => ?_, fun a ha => s'.fresh a (List.mem_of_mem_take ha)⟩, sub, fun k a hk ha => ?_⟩
  · rw [← hβ]; exact List.prefix_refl _
  · by_cases z : a ∈ β'.take S.length
    · simp only [if_pos z] at q; exact s'.sub a o q
    · simpa only [if_neg z] using q
  · rw [List.getElem?_take] at e1 e2
    split at e1
    · split at e2
      · exact s'.inj i j a e1 e2
      · cases e2
    · cases e1
  · have hm : a ∈ β'.take S.length := List.mem_of_getElem? e2
    rw [List.getElem?_take] at e1 e2
    split at e1
    · rename_i hi
      rw [if_pos hi] at e2
      obtain ⟨h1, h2⟩ := s'.obj i o a e1 e2
      refine ⟨h1.to (if_pos hm), ?_⟩
      refine OR.cut sub o a h2 ?_
      rcases hc i o hi e1 with z | z
      · obtain ⟨b, hb, _, h3⟩ := s.at z
        have := OR.cl o b h3
        rwa [s.len] at this
      · exact z
    · cases e1
  · have : a ∉ β'.take S.length := fun z => by
      obtain ⟨i, hi⟩ := List.getElem?_of_mem z
      rw [List.getElem?_take] at hi
      split at hi
      · have := s'.inj i k a hi ha
        omega
      · cases hi
    simp only [if_neg this]
theorem shed_ok (s : Sim K cA F β S H) (e : Ext F β F' β') (s' : Sim K cA F' β' S' H') {v v' : Va} {S'' : Sto} {x : V} (r : VR K F' β' v x) (h : Shed S v S' v' S'') :
    ∃ F2 β2, Ext F β F2 β2 ∧ Sim K cA F2 β2 S'' H' ∧ VR K F2 β2 v' x := by
  rcases h with ⟨rfl, rfl⟩ | ⟨⟨rfl, hl, hc⟩, hz⟩
  · exact ⟨F', β', e, s', r⟩
  · obtain ⟨F2, e2, s2, sub, hk⟩ := cut_ok s e s' hl hc
    exact ⟨F2, _, e2, s2, Fz.ok s' sub hk v' v x hz r⟩
theorem cutx_ok (s : Sim K cA F β S H) (e : Ext F β F' β') (s' : Sim K cA F' β' S' H') {S'' : Sto} (h : Cut S S' S'') : ∃ F2 β2, Ext F β F2 β2 ∧ Sim K cA F2 β2 S'' H' := by
  rcases h with rfl | ⟨rfl, hl, hc⟩
  · exact ⟨F', β', e, s'⟩
  · obtain ⟨F2, e2, s2, sub, hk⟩ := cut_ok s e s' hl hc
    exact ⟨F2, _, e2, s2⟩
end
end AM
end

section
set_option linter.all false
set_option maxRecDepth 100000
set_option maxHeartbeats 4000000
/-! AM, eighth part: every def of the text keeps its promise; the law's end. -/
namespace AM
open PySem L2

/-- a def of the text and its promise's ground; cs: lambdas' names and the code objects of the defs that make them -/
def DefOk (K : PySem.W.Frag) (T : Tab) (fs xs : List Str) (cs : List (Str × Addr)) (f : Str) (a : Addr) (d : Fn) (fd : FuncData) : Prop :=
  ∃ st nm qn lm nd, T.fn f = some d ∧ FunD K nm qn (defArgs st) (defBody st) (defScope st) [] [] a fd ∧ Binds K fd d.ps [] ∧ ckF xs fs d st lm nd = true ∧ (∀ q ∈ lm, (qn ++ ".<locals>.") ++ "<lambda>" = q ∧ ∃ c, (q, c) ∈ cs ∧ fd.code = .ref c) ∧ ∀ p ∈ nd, T.fn p.1 = some p.2
structure Facts (w : World) (K : PySem.W.Frag) (mg : Str → Option Value) (cA : Str → Addr) (T : Tab) (fs xs : List Str) (cs : List (Str × Addr) := []) : Prop where
  fn : ∀ f ∈ fs, ∃ a d fd, mg f = some (.ref a) ∧ DefOk K T fs xs cs f a d fd
  blt : ∀ x ∈ bltNames, mg x = none
  exc : ∀ x ∈ xs, mg x = some (.ref (cA x)) ∧ PySem.W.excIn K (cA x) [.type "ValueError", .type "Exception", .type "BaseException", .type "object"] "ValueError.__new__" = true ∧ PySem.W.keepIn K (.ref (cA x)) = true ∧
    PySem.W.subIn K (.ref (cA x)) (.type "BaseException") = some true ∧ PySem.W.typeIn K (.ref (cA x)) = some (.type "type")
  glo : ∀ p ∈ T.gb, ∃ u y, mg p.1 = some u ∧ RelV y u ∧ ∀ F β, VR K F β p.2 y
  noat : ∀ p ∈ T.na, Cls K (cA p.1) ∧ NoAttr K (cA p.1) p.2
  meth : ∀ p ∈ T.mt, Cls K (cA p.1) ∧ ∃ a d fd, Meth K (cA p.1) p.2.1 a ∧ DefOk K T fs xs cs p.2.2 a d fd
  init : ∀ p ∈ T.it, mg p.1 = some (.ref (cA p.1)) ∧ PySem.W.keepIn K (.ref (cA p.1)) = true ∧ match p.2 with
    | none => PySem.W.makesIn K (cA p.1) = true ∧ PySem.W.findIn K (.ref (cA p.1)) "__init__" = some (some (.builtin "object.__init__")) ∧ PySem.W.mroIn K (cA p.1) (.type "object") = some true
    | some key => ∃ a d fd, Mk K (cA p.1) a ∧ DefOk K T fs xs cs key a d fd

  isa : ∀ p ∈ T.ia, mg p.2.1 = some (.ref (cA p.2.1)) ∧ IsaOk K (cA p.1) ∧ PySem.W.kitOne K (.ref (cA p.1)) (.ref (cA p.2.1)) = some p.2.2
  gdc : ∀ p ∈ T.gd, DctOk w K mg p
  xk : ∀ p ∈ T.xk, XkOk K mg cA p

theorem start_rel {K : PySem.W.Frag} {F : Hp} {β : List Addr} : ∀ {as : List Va} {vs : List V}, VRs K F β as vs → ∀ (n : Nat), EnvR K F β (as.map some ++ List.replicate n none) (vs.map some ++ List.replicate n none)
  | [], _, h, n => by
    cases (show _ = [] from h)
    induction n with
    | zero => trivial
    | succ n ih => exact ⟨trivial, ih⟩
  | a :: as, _, ⟨y, r, e, q, qs⟩, n => by
    subst e
    exact ⟨q, start_rel qs n⟩

section
variable {P : Program} {w : World} {K : PySem.W.Frag} {mg : Str → Option Value} {base : Heap} {cA : Str → Addr} {T : Tab} {fs xs : List Str} {cs : List (Str × Addr)}
theorem Facts.add (G : Facts w K mg cA T fs xs cs) (z : Clo) : Facts w K mg cA (T.add z) fs xs cs := ⟨G.fn, G.blt, G.exc, G.glo, G.noat, G.meth, G.init, G.isa, G.gdc, G.xk⟩
theorem CloB.keeps {base base' : Heap} {z : Clo} (h : CloB T xs fs base z) (sub : ∀ b o, base.get? b = some o → base'.get? b = some o) : CloB T xs fs base' z := by
  obtain ⟨nm, params, bd, scope, cl, fr, d, doc, pm, ctv, od, sl, h1, h2, h3, h4⟩ := h
  exact ⟨nm, params, bd, scope, cl, fr, d, doc, pm, ctv, od, sl, h1, h2, sub _ _ h3, h4.keeps sub⟩
theorem fns_of (G : Facts w K mg cA T fs xs cs) {k : Nat} (A : ∀ (f : Str) (a : Addr) (d : Fn) (fd : FuncData), DefOk K T fs xs cs f a d fd → FnOk P w K mg base (L2.CX P w) (2 * k) a fd d.ps (spI K cA (orc T k) f)) : FnsOk P w K mg base cA T k fs := by
  refine ⟨fun f hf => ?_, fun p hp => ?_⟩
  · obtain ⟨a, d, fd, h2, D⟩ := G.fn f hf
    have F := A f a d fd D
    obtain ⟨st, nm, qn, lm, nd, h1, h3, h4, h5, _⟩ := D
    exact ⟨d, a, fd, h1, h2, h3.kp, h4, F⟩
  · obtain ⟨e1, a, d, fd, e2, D⟩ := G.meth p hp
    have F := A p.2.2 a d fd D
    obtain ⟨st, nm, qn, lm, nd, h1, h3, h4, h5, _⟩ := D
    exact ⟨e1, d, a, fd, h1, e2, h4, F⟩
theorem ndOf_ok {nd : List (Str × Fn)} (h : ∀ p ∈ nd, T.fn p.1 = some p.2) : ∀ id params bd scope fr, ndOf xs fs nd id params bd scope fr = true → ∃ d, T.fn id = some d ∧ ckN xs fs d params bd scope fr = true := fun id params bd scope fr hk => by
  unfold ndOf at hk
  split at hk
  · rename_i d hd
    exact ⟨d, h _ (lk_mem hd), hk⟩
  · cases hk
/-- every def keeps its promise, and so does every function made on the way -/
theorem all_ok : ∀ (k : Nat) (T : Tab) (base : Heap) (G : Facts w K mg cA T fs xs cs) (TB : ∀ p ∈ cs, LamX.TabB base mg p.2 (cA p.1)) (CB : ∀ z ∈ T.cl, CloB T xs fs base z),
    (∀ (f : Str) (a : Addr) (d : Fn) (fd : FuncData), DefOk K T fs xs cs f a d fd → FnOk P w K mg base (L2.CX P w) (2 * k) a fd d.ps (spI K cA (orc T k) f)) ∧ ∀ z ∈ T.cl, CloOk P w K mg base cA T k z
  | 0, T, base, G, TB, CB => ⟨fun f a d fd _ => ⟨fun vs H Q E ⟨F, β, S, as, _, _, q⟩ => q.elim, fun A outer s H args us vs Q E _ _ _ _ ⟨F, β, S, as, _, _, q⟩ => q.elim⟩, fun z _ A outer s H us vs Q E _ _ _ _ ⟨F, β, S, as, _, _, q⟩ => q.elim⟩
  | k + 1, T, base, G, TB, CB => by
    have IH := all_ok k T base G TB CB
    have FS := fns_of (base := base) (k := k) G IH.1
    have fnAt : ∀ z ∈ T.cl, PySem.W.FnAt z.f base := fun z hz => by
      obtain ⟨nm, params, bd, scope, cl, fr, d, doc, pm, ctv, od, sl, h1, h2, h3, h4⟩ := CB z hz
      exact ⟨_, _, _, _, h3⟩
    have CLO : ∀ z ∈ T.cl, PySem.W.FnAt z.f base ∧ CloOk P w K mg base cA T k z := fun z hz => ⟨fnAt z hz, IH.2 z hz⟩
    have UP : ∀ (base' : Heap) (z : Clo), (∀ b o, base.get? b = some o → base'.get? b = some o) → CloB T xs fs base' z → FnsOk P w K mg base' cA (T.add z) k fs := fun base' z sub cb =>
      fns_of (G.add z) (all_ok k (T.add z) base' (G.add z) (fun p hp => ⟨(TB p hp).code.keeps sub, (TB p hp).bm.keeps sub, (TB p hp).gP⟩) (fun z' hz' => by
        rcases List.mem_cons.mp (show z' ∈ z :: T.cl from hz') with e | hz'
        · rw [e]; exact cb
        · exact (CB z' hz').keeps sub)).1
    have INI : ∀ p ∈ T.it, mg p.1 = some (.ref (cA p.1)) ∧ PySem.W.keepIn K (.ref (cA p.1)) = true ∧ match p.2 with
        | none => PySem.W.makesIn K (cA p.1) = true ∧ PySem.W.findIn K (.ref (cA p.1)) "__init__" = some (some (.builtin "object.__init__")) ∧ PySem.W.mroIn K (cA p.1) (.type "object") = some true
        | some key => ∃ d a fd, T.fn key = some d ∧ Mk K (cA p.1) a ∧ Binds K fd d.ps [] ∧ FnOk P w K mg base (L2.CX P w) (2 * k) a fd d.ps (spI K cA (orc T k) key) := fun p hp => by
      obtain ⟨e1, e2, e3⟩ := G.init p hp
      refine ⟨e1, e2, ?_⟩
      obtain ⟨c, o⟩ := p
      cases o with
      | none => exact e3
      | some key =>
        obtain ⟨a, d, fd, e4, D⟩ := e3
        have F := IH.1 key a d fd D
        obtain ⟨st, nm, qn, lm, nd, h1, h3, h4, h5, _⟩ := D
        exact ⟨d, a, fd, h1, e4, h4, F⟩
    refine ⟨fun f a d fd ⟨st, nm, qn, lm, nd, h1, h3, h4, h5, hlm, hnd⟩ => ?_, fun z hz => ?_⟩
    · unfold ckF at h5
      split at h5
      · rename_i _ ar bd dl rt ty sc tp bn ps
        obtain ⟨h5, _⟩ := ba h5
        obtain ⟨h5, _⟩ := ba h5
        obtain ⟨h5, _⟩ := ba h5
        obtain ⟨h5, _⟩ := ba h5
        obtain ⟨h5, _⟩ := ba h5
        obtain ⟨h5, _⟩ := ba h5
        obtain ⟨h5, _⟩ := ba h5
        obtain ⟨h5, c8⟩ := ba h5
        obtain ⟨h5, c7⟩ := ba h5
        obtain ⟨h5, c6⟩ := ba h5
        obtain ⟨h5, c5⟩ := ba h5
        obtain ⟨h5, c4⟩ := ba h5
        obtain ⟨h5, c3⟩ := ba h5
        obtain ⟨c1, c2⟩ := ba h5
        have hN : d.N.Nodup := of_decide_eq_true c5
        show FnOk P w K mg base (L2.CX P w) (2 * k + 1 + 1) a fd d.ps (spI K cA (orc T (k + 1)) f)
        obtain ⟨oc, od, dV, kV, doc, pm, an, cdv, ct, osl, rfl, lk, hcd, _, _⟩ := h3.ex
        refine fn_of (CX := L2.CX P w) (N := d.N) lk hcd ⟨of_decide_eq_true c2, (show sc.isCoroutine = false from by simpa using c3), (show sc.isGenerator = false from by simpa using c4), hN, of_decide_eq_true c6, fun x hx => loc_of (List.all_eq_true.mp c7 x hx), fun y hy => by have := List.all_eq_true.mp c8 y hy; exact of_decide_eq_true this⟩
          (fun vs H Q E ⟨F, β, S, as, s, r, d', hd, hl, _⟩ => ?_) (fun A outer s H vs Q E hr ⟨F, β, S, as, si, r, d', hd, hl, q⟩ => ?_)
        · rw [h1] at hd; cases hd
          rw [← hl, r.len]
        · rw [h1] at hd; cases hd
          have g : Gd ⟨d.N, sc, xs, fs, locB sc, false, lm, ndOf xs fs nd⟩ cA T k none (fun cls dd _ H => E cls dd H) (cxOf (L2.CX P w) P w K mg base d.N qn sc a cdv A outer s H E) := by
            refine ⟨rfl, hN, rfl, of_decide_eq_true c2, fun x h => ⟨loc_of h, .inl rfl⟩, fun _ => rfl, fun _ => hr, (show A.units + 3 + 65 < cLine from by have h9 := hr.un; have h9 : A.units + 3 + 16 * (2 * k + 1) + 200 < cLine := h9; omega), takes_of rfl rfl rfl rfl, fun _ => passes_of rfl, fun _ => rfl, fun a x e => by (cases e), G.xk, G.blt, FS.1, fun x hx => ?_, G.glo, G.noat, FS.2, INI, G.isa, G.gdc, fun q hq => ?_, fun _ _ => rfl, ndOf_ok hnd, CLO, UP⟩
            · obtain ⟨e1, e2, e3, e4, e5⟩ := G.exc x hx
              exact ⟨e1, e2, e3, raises_own e4 e5⟩
            · obtain ⟨e1, c, hc, e2⟩ := hlm q hq
              exact ⟨e1, c, e2, TB (q, c) hc⟩
          refine ⟨_, sndSs d.body _ none _ _ g rfl rfl bd c1, F, β, startA d.N as, S, si, ?_, WSs_mono (call_mono T k) d.body _ _ _ _ ⟨?_, ?_, ?_, ?_, ?_⟩ q⟩
          · have := start_rel r (d.N.length - vs.length)
            unfold startA L2.start
            rw [r.len]
            exact this
          · intro Γ S' ⟨v', S'', hs, hp⟩ F' β' H' σ' e' s' g'
            obtain ⟨F2, β2, e2, s2, r2⟩ := shed_ok si e' s' (v := .non) (x := .non) rfl hs
            exact hp F2 β2 H' _ e2 s2 r2
          · intro v S' ⟨v', S'', hs, hp⟩ F' β' H' x e' s' r'
            obtain ⟨F2, β2, e2, s2, r2⟩ := shed_ok si e' s' r' hs
            exact hp F2 β2 H' _ e2 s2 r2
          · exact fun _ _ z => z.elim
          · exact fun _ _ z => z.elim
          · intro x Γ S' ⟨S'', hs, hp⟩ F' β' H' σ' e' s' g'
            obtain ⟨F2, β2, e2, s2⟩ := cutx_ok si e' s' hs
            exact hp F2 β2 H' e2 s2
      · cases h5
    · obtain ⟨nm, params, bd, scope, cl, fr, d, doc, pm, ctv, od, sl, h1, h2, h3, h4⟩ := CB z hz
      intro A outer s H us vs Q E hr e0 hc rv ⟨F, β, S, as, si, r, d', hd, hl, q⟩
      rw [h1] at hd; cases hd
      unfold ckN at h2
      split at h2
      · cases h2
      · rename_i ps hps
        obtain ⟨h2, k3⟩ := ba h2
        obtain ⟨k1, k2⟩ := ba h2
        have k1 := of_decide_eq_true k1
        have NS := NdefX.nscope_by k2
        have hlv : vs.length = ps.length := by
          have e1 := r.len
          rw [hl, k1, List.length_append, List.length_append, h4.len] at e1
          omega
        have hr : Room (2 * k + 1 + 1) A := hr
        refine clo_run hps NS h3 h4 hr e0 hc rv hlv fun hr' => ?_
        have g : ∀ {lc : Str → Bool}, lc = locL scope → Gd ⟨d.N, scope, xs, fs, lc, false, [], noNd⟩ cA T k none (fun cls dd _ H => E cls dd H) (NdefX.ncx (L2.CX P w) P w K mg base d.N (nfOf nm z.q params scope cl z.c) z.f A outer s H E) := by
          rintro lc rfl
          refine ⟨rfl, NS.nd, rfl, NS.kind, fun x h => ?_, fun _ => rfl, fun _ => hr', (show A.units + 3 + 65 < cLine from by have h9 := hr'.un; have h9 : A.units + 3 + 16 * (2 * k + 1) + 200 < cLine := h9; omega), takes_of rfl rfl rfl rfl, fun _ => passes_of rfl, fun _ => rfl, fun a x e => by (cases e), G.xk, G.blt, FS.1, fun x hx => ?_, G.glo, G.noat, FS.2, INI, G.isa, G.gdc, fun q hq => by (cases hq), fun h => absurd rfl h, fun _ _ _ _ _ h => by (cases h), CLO, UP⟩
          · have e : scope.names.lookup x = some .local := of_decide_eq_true h
            exact ⟨.inl e, .inr e⟩
          · obtain ⟨e1, e2, e3, e4, e5⟩ := G.exc x hx
            exact ⟨e1, e2, e3, raises_own e4 e5⟩
        have en : EnvR K F β (startA d.N as) (NdefX.startF d.N vs (z.xs.map some)) := by
          have := start_rel r (d.N.length - as.length)
          unfold startA NdefX.startF
          rw [List.map_append, List.append_assoc] at this
          have e1 := r.len
          rw [List.length_append] at e1
          rw [List.length_map, show d.N.length - vs.length - z.xs.length = d.N.length - as.length from by omega]
          exact this
        refine ⟨fun b eb => ?_, fun e eb => ?_⟩
        · subst eb
          refine ⟨_, sndSs d.body _ none _ _ (g rfl) rfl rfl b k3, F, β, startA d.N as, S, si, en, WSs_mono (call_mono T k) d.body _ _ _ _ ⟨?_, ?_, ?_, ?_, ?_⟩ q⟩
          · intro Γ S' ⟨v', S'', hs, hp⟩ F' β' H' σ' e' s' g'
            obtain ⟨F2, β2, e2, s2, r2⟩ := shed_ok si e' s' (v := .non) (x := .non) rfl hs
            exact hp F2 β2 H' _ e2 s2 r2
          · intro v S' ⟨v', S'', hs, hp⟩ F' β' H' x e' s' r'
            obtain ⟨F2, β2, e2, s2, r2⟩ := shed_ok si e' s' r' hs
            exact hp F2 β2 H' _ e2 s2 r2
          · exact fun _ _ z => z.elim
          · exact fun _ _ z => z.elim
          · intro x Γ S' ⟨S'', hs, hp⟩ F' β' H' σ' e' s' g'
            obtain ⟨F2, β2, e2, s2⟩ := cutx_ok si e' s' hs
            exact hp F2 β2 H' e2 s2
        · subst eb
          have k3 : (match d.body with
            | .cons (.ret m) .nil => ckE ⟨d.N, scope, xs, fs, locL scope, false, [], noNd⟩ m e
            | _ => false) = true := k3
          split at k3
          · rename_i m hb
            rw [hb] at q
            refine ⟨_, sndE _ m _ _ (g rfl) e k3, F, β, startA d.N as, S, si, en, W_mono (call_mono T k) m _ _ _ _ _ _ ?_ ?_ (show W _ m _ _ _ _ from q)⟩
            · intro v S' ⟨v', S'', hs, hp⟩ F' β' H' x e' s' r'
              obtain ⟨F2, β2, e2, s2, r2⟩ := shed_ok si e' s' r' hs
              exact hp F2 β2 H' _ e2 s2 r2
            · intro x S' ⟨S'', hs, hp⟩ F' β' H' e' s'
              obtain ⟨F2, β2, e2, s2⟩ := cutx_ok si e' s' hs
              exact hp F2 β2 H' e2 s2
          · cases k3
theorem fn_ok (G : Facts w K mg cA T fs xs cs) (TB : ∀ p ∈ cs, LamX.TabB base mg p.2 (cA p.1)) (k : Nat) (f : Str) (a : Addr) (d : Fn) (fd : FuncData) (D : DefOk K T fs xs cs f a d fd) (CB : T.cl = [] := by rfl) : FnOk P w K mg base (L2.CX P w) (2 * k) a fd d.ps (spI K cA (orc T k) f) :=
  (all_ok k T base G TB (fun z hz => by rw [CB] at hz; cases hz)).1 f a d fd D

theorem fnil {α : Type} {Q : α → Prop} : ∀ f ∈ ([] : List α), Q f := fun _ h => by cases h
theorem fcons {α : Type} {Q : α → Prop} {x : α} {l : List α} (h : Q x) (t : ∀ f ∈ l, Q f) : ∀ f ∈ x :: l, Q f := fun f hf => by
  rcases List.mem_cons.mp hf with e | hf
  · rw [e]; exact h
  · exact t f hf
/-- the law's promise from the machine's -/
theorem law_ok (G : Facts w K mg cA T fs xs cs) (hlaw : ("law" : Str) ∈ fs) {k : Nat} {a : Addr} {H : Hp} {ns : List Int} (hS : SqL K H a (ns.map V.int))
    (h : call T k "law" [.scr ns] [] (fun v _ => v = .bl true) (fun _ _ => False)) : spI K cA (orc T k) "law" [.ref a] H (fun v _ => v = .bl true) (fun _ _ _ => False) := by
  refine ⟨H, [], [], [.scr ns], ⟨Same.refl _, rfl, fun i j a e => by simp at e, fun i o a e => by simp at e, fun a e => by simp at e⟩, ⟨.ref a, [], rfl, ⟨a, rfl, hS⟩, rfl⟩, ?_⟩
  · refine (call_mono T k).run _ _ _ _ _ _ _ (fun v S e F' β' H' x _ _ r => ?_) (fun _ _ z => z.elim) h
    subst e
    exact r
end

/-- .. where some defs make lambdas: their tables stand in the store from the start -/
theorem law_okT {K : PySem.W.Frag} {cA : Str → Addr} {T : Tab} {ts : List (Str × Addr)} (hA : ∀ p ∈ ts, cA p.1 = p.2) (hn : (ts.map (·.2)).Nodup) {k : Nat} {a : Addr} {H : Hp} {ns : List Int} (hT : ∀ p ∈ ts, H p.2 = some (.tbl #[])) (hS : SqL K H a (ns.map V.int))
    (h : call T k "law" [.scr ns] (ts.map fun p => Ob.tab p.1) (fun v _ => v = .bl true) (fun _ _ => False)) : spI K cA (orc T k) "law" [.ref a] H (fun v _ => v = .bl true) (fun _ _ _ => False) := by
  have mem : ∀ b, b ∈ ts.map (·.2) → H b = some (.tbl #[]) := fun b hb => by
    obtain ⟨p, hp, e⟩ := List.mem_map.mp hb
    rw [← e]; exact hT p hp
  have out : ∀ b u, H b = some u → (∀ ps, u ≠ .tbl ps) → (if b ∈ ts.map (·.2) then none else H b) = some u := fun b u e n => by
    by_cases hb : b ∈ ts.map (·.2)
    · rw [mem b hb] at e; cases e; exact absurd rfl (n _)
    · rw [if_neg hb]; exact e
  refine ⟨fun b => if b ∈ ts.map (·.2) then none else H b, ts.map (·.2), ts.map fun p => Ob.tab p.1, [.scr ns], ⟨fun b u e => ?_, by simp, fun i j b e1 e2 => ?_, fun i o b e1 e2 => ?_, fun b hb => ?_⟩, ⟨.ref a, [], rfl, ⟨a, rfl, ?_⟩, rfl⟩, ?_⟩
  · by_cases hb : b ∈ ts.map (·.2)
    · have e' : (if b ∈ ts.map (·.2) then none else H b) = some u := e
      rw [if_pos hb] at e'; cases e'
    · have e' : (if b ∈ ts.map (·.2) then none else H b) = some u := e
      rw [if_neg hb] at e'; exact e'
  · exact (List.getElem?_inj (lt_of_get e1) hn).mp (e1.trans e2.symm)
  · rw [List.getElem?_map] at e1 e2
    cases q : ts[i]? with
    | none => rw [q] at e1; cases e1
    | some p =>
      rw [q] at e1 e2
      cases (Option.some.inj e1 : Ob.tab p.1 = o)
      cases (Option.some.inj e2 : p.2 = b)
      have hp := List.mem_of_getElem? q
      have hb : p.2 ∈ ts.map (·.2) := List.mem_map.mpr ⟨p, hp, rfl⟩
      exact ⟨if_pos hb, (hA p hp).symm, #[], mem _ hb, True.intro, fun pos cv hc => by
        have z : codeAmong pos [] = some cv := hc
        simp [codeAmong] at z⟩
  · rw [mem b hb]; simp
  · rcases hS with (e | ⟨o, e⟩) | e
    · exact .inl (.inl (out _ _ e (fun _ z => by cases z)))
    · exact .inl (.inr ⟨o, out _ _ e (fun _ z => by cases z)⟩)
    · exact .inr e
  · refine (call_mono T k).run _ _ _ _ _ _ _ (fun v S e F' β' H' x _ _ r => ?_) (fun _ _ z => z.elim) h
    subst e
    exact r

/-! ### heads of laws whose defs make lambdas -/
theorem code_ok {K : PySem.W.Frag} {x qual : Str} {params : Arguments} {body : List Stmt} {scope : Scope} {dvs : List V} {kws : List (Str × V)} {p : He.Defn} {fd : FuncData} (F : FunD K x qual params body scope dvs kws (He.fAd K p) fd) : fd.code = .ref (He.codeOf K p) := by
  obtain ⟨oc, od, dV, kV, doc, pm, an, cdv, ct, osl, rfl, lk, hcd, _, _⟩ := F.ex
  obtain ⟨c, rfl⟩ := He.codeIn_ref hcd
  rw [He.codeOf_eq lk rfl]
/-- lambdas' names stand for tables, all other names for the module's things -/
def cAl (l : List (Str × He.Defn)) (K : PySem.W.Frag) (x : Str) : Addr := match l.lookup x with
  | some p => (He.cT K p).2
  | none => He.ga K x
theorem cAl_ga {l : List (Str × He.Defn)} {K : PySem.W.Frag} {ns : List Str} (h : (ns.all fun x => (l.lookup x).isNone) = true) : ∀ x ∈ ns, cAl l K x = He.ga K x := fun x hx => by
  have e := List.all_eq_true.mp h x hx
  unfold cAl
  cases q : l.lookup x with
  | none => rfl
  | some p => rw [q] at e; cases e
theorem lookup_of {β : Type} : ∀ {l : List (Str × β)}, (l.map (·.1)).Nodup → ∀ p ∈ l, l.lookup p.1 = some p.2
  | [], _, p, h => by cases h
  | (x, v) :: r, hn, p, h => by
    have hn' : x ∉ r.map (·.1) ∧ (r.map (·.1)).Nodup := by simpa using List.nodup_cons.mp hn
    rcases List.mem_cons.mp h with rfl | h
    · simp [List.lookup]
    · have ne : p.1 ≠ x := fun e => hn'.1 (e ▸ List.mem_map.mpr ⟨p, h, rfl⟩)
      rw [List.lookup_cons, beq_false_of_ne ne]
      exact lookup_of hn'.2 p h
abbrev lamCs (l : List (Str × He.Defn)) (K : PySem.W.Frag) : List (Str × Addr) := l.map fun p => (p.1, He.codeOf K p.2)
abbrev lamTs (l : List (Str × He.Defn)) (K : PySem.W.Frag) : List (Str × Addr) := l.map fun p => (p.1, (He.cT K p.2).2)
theorem lamTs_ok {l : List (Str × He.Defn)} {K : PySem.W.Frag} (hn : (l.map (·.1)).Nodup) : ∀ p ∈ lamTs l K, cAl l K p.1 = p.2 := fun p hp => by
  obtain ⟨q, hq, rfl⟩ := List.mem_map.mp hp
  show cAl l K q.1 = _
  unfold cAl
  rw [lookup_of hn q hq]
theorem lamCs_ok {l : List (Str × He.Defn)} {K : PySem.W.Frag} {base : Heap} {mg : Str → Option Value} (hn : (l.map (·.1)).Nodup) (TB : ∀ p ∈ l.map (fun p => He.cT K p.2), LamX.TabB base mg p.1 p.2) : ∀ p ∈ lamCs l K, LamX.TabB base mg p.2 (cAl l K p.1) := fun p hp => by
  obtain ⟨q, hq, rfl⟩ := List.mem_map.mp hp
  have e : cAl l K q.1 = (He.cT K q.2).2 := by
    unfold cAl
    rw [lookup_of hn q hq]
  show LamX.TabB base mg (He.codeOf K q.2) (cAl l K q.1)
  rw [e]
  exact TB _ (List.mem_map.mpr ⟨q, hq, rfl⟩)
def Tab.nms (T : Tab) : List Str := T.na.map (·.1) ++ T.mt.map (·.1) ++ T.it.map (·.1) ++ T.ia.map (·.1) ++ T.ia.map (·.2.1) ++ T.xk.map (·.1)
theorem Facts.ofGa {w : World} {K : PySem.W.Frag} {mg : Str → Option Value} {cA cA' : Str → Addr} {T : Tab} {fs xs : List Str} {cs : List (Str × Addr)} (G : Facts w K mg cA T fs xs cs) (h : ∀ x ∈ T.nms ++ xs, cA' x = cA x) : Facts w K mg cA' T fs xs cs := by
  have h1 : ∀ p ∈ T.na, cA' p.1 = cA p.1 := fun p hp => h _ (by simp only [Tab.nms, List.mem_append, List.mem_map]; exact .inl (.inl (.inl (.inl (.inl (.inl ⟨p, hp, rfl⟩))))))
  have h2 : ∀ p ∈ T.mt, cA' p.1 = cA p.1 := fun p hp => h _ (by simp only [Tab.nms, List.mem_append, List.mem_map]; exact .inl (.inl (.inl (.inl (.inl (.inr ⟨p, hp, rfl⟩))))))
  have h3 : ∀ p ∈ T.it, cA' p.1 = cA p.1 := fun p hp => h _ (by simp only [Tab.nms, List.mem_append, List.mem_map]; exact .inl (.inl (.inl (.inl (.inr ⟨p, hp, rfl⟩)))))
  have h4 : ∀ p ∈ T.ia, cA' p.1 = cA p.1 := fun p hp => h _ (by simp only [Tab.nms, List.mem_append, List.mem_map]; exact .inl (.inl (.inl (.inr ⟨p, hp, rfl⟩))))
  have h5 : ∀ p ∈ T.ia, cA' p.2.1 = cA p.2.1 := fun p hp => h _ (by simp only [Tab.nms, List.mem_append, List.mem_map]; exact .inl (.inl (.inr ⟨p, hp, rfl⟩)))
  have h6 : ∀ p ∈ T.xk, cA' p.1 = cA p.1 := fun p hp => h _ (by simp only [Tab.nms, List.mem_append, List.mem_map]; exact .inl (.inr ⟨p, hp, rfl⟩))
  have h7 : ∀ x ∈ xs, cA' x = cA x := fun x hx => h _ (List.mem_append.mpr (.inr hx))
  refine ⟨G.fn, G.blt, fun x hx => ?_, G.glo, fun p hp => ?_, fun p hp => ?_, fun p hp => ?_, fun p hp => ?_, G.gdc, fun p hp => ?_⟩
  · rw [h7 x hx]; exact G.exc x hx
  · rw [h1 p hp]; exact G.noat p hp
  · rw [h2 p hp]; exact G.meth p hp
  · rw [h3 p hp]; exact G.init p hp
  · rw [h4 p hp, h5 p hp]; exact G.isa p hp
  · obtain ⟨v, cv, e1, e2, e3, e4, e5⟩ := G.xk p hp
    exact ⟨v, cv, e1, e2, by rw [h6 p hp]; exact e3, by rw [h6 p hp]; exact e4, by rw [h6 p hp]; exact e5⟩

/-- a law's end, with the bits of the script's numbers told -/
theorem walk_ofEB {l : PySem.W.OpenLaw} {n k : Nat} {q : Program} {loose : List Str} {XP : (Str → Option Value) → Heap → Prop} {YP : World → Heap → Prop} {d : DefRec} {CX : World → CXT} {x : Str}
    (hn : l.most = some n) (hn2 : n ≤ sizeLine) (hdf : d.params.defaults = []) (hr : Room k callerA)
    (F : ∀ (w : World) (mg : Str → Option Value) (fa : Addr) (h : Heap), YP w h → h.Ns mainGlobals mg → mg d.name = some (.ref fa) →
      ∃ (K : PySem.W.Frag) (fd : FuncData) (sp : Sp), K.In h ∧ (∀ (s : Shared) (u : Value), BindsTo s fd ⟨[u], []⟩ [(x, u)]) ∧
        (∀ (H : Hp) (a : Addr) (ns : List Int), ns.length ≤ n → (∀ z ∈ ns, Builtin.Int.intBits z ≤ 1048576) → Only H → SqL K H a (ns.map V.int) → sp [.ref a] H (fun v _ => v = .bl true) fun _ _ _ => False) ∧
        ∀ base : Heap, K.In base → base.Ns mainGlobals mg → FnOk l.prog w K mg base (CX w) k fa fd [x] sp)
    (hCX : ∀ (w : World) (H : Hp) (s : Shared) (e : Value) (s' : Shared), CX w [] H s (fun _ _ _ => False) e s' → False) :
    PySem.W.WalkO q loose XP YP l.row.toRowW d [] (fun f vs => PySem.call f vs) := by
  refine Att.attach_callB hn hdf fun w s₀ s₁ mg mb fa o pm cd doc a vs ns G Y ho hd hcd hmg hobj hints hlen hbits hg => ?_
  obtain ⟨K, fd, sp, KX, hb, hsp, hF⟩ := F w mg fa _ Y G.T.g hmg
  exact law_call KX G.T.g G.T.b G.T.builtins G.T.nolimit hg hobj hints (Nat.le_trans hlen hn2) hr hF hb (fun H hO hS => hsp H a ns hlen hbits hO hS) fun H e s' => hCX w H s₁ e s'
end AM
end

section
set_option linter.all false
set_option maxRecDepth 100000
set_option maxHeartbeats 4000000
/-! AM, ninth part: rules for use. -/
namespace AM
open PySem L2

theorem fin_keep {S0 S : Sto} {P : PV} {v : Va} (h : P v S) : fin S0 P v S := ⟨v, S, .inl ⟨rfl, rfl⟩, h⟩
theorem finX_keep {S0 S : Sto} {E : PX} {x : Str} (h : E x S) : finX S0 E x S := ⟨S, .inl rfl, h⟩
/-- what is new is taken for good, the store as it was -/
theorem fin_pure {S N : Sto} {P : PV} {v v' : Va} (hz : Fz (S ++ N) S.length v v') (h : P v' S) : fin S P v (S ++ N) :=
  ⟨v', S, .inr ⟨⟨by simp, by simp, fun i o hi e => .inl (by rw [List.getElem?_append_left hi] at e; exact e)⟩, hz⟩, h⟩
theorem fin_pure' {S S1 : Sto} {P : PV} {v v' : Va} (hS : ∃ N, S1 = S ++ N) (hz : Fz S1 S.length v v') (h : P v' S) : fin S P v S1 := by
  obtain ⟨N, rfl⟩ := hS
  exact fin_pure hz h
theorem call_def {T : Tab} {k : Nat} {f : Str} {as : List Va} {S : Sto} {P : PV} {E : PX} {d : Fn} (h : T f = some d) (hl : as.length = d.ps.length)
    (hb : WSs (orc T k) d.body { nx := fun _ S' => fin S P .non S', rt := fin S P, ex := fun x _ S' => finX S E x S' } (startA d.N as) S) : call T (k + 1) f as S P E := ⟨d, h, hl, hb⟩

/-- a while by a word and a measure -/
theorem wh_rule {C : Orc} (hC : OrcMono C) {t : Te} {b : Sms} {D : AEnds} {Γ : Env} {S : Sto} (I : Env → Sto → Prop) (μ : Env → Sto → Nat) (h0 : I Γ S)
    (h : ∀ Γ S, I Γ S → WT C t Γ S (fun k S1 => if k = true then WSs C b { D with nx := fun Γ' S' => I Γ' S' ∧ μ Γ' S' < μ Γ S, ct := fun Γ' S' => I Γ' S' ∧ μ Γ' S' < μ Γ S, bk := D.nx } Γ S1 else D.nx Γ S1) (fun x S1 => D.ex x Γ S1)) :
    WS C (.whil t b) D Γ S := by
  have key : ∀ (m : Nat) (Γ : Env) (S : Sto), I Γ S → μ Γ S < m → whN (fun Γ S P => WT C t Γ S P (fun x S1 => D.ex x Γ S1)) (fun Nx Γ S => WSs C b { D with nx := Nx, ct := Nx, bk := D.nx } Γ S) D.nx m Γ S := by
    intro m
    induction m with
    | zero => intro Γ S _ hm; omega
    | succ m ih =>
      intro Γ S hI hm
      refine WT_mono hC t Γ S _ _ _ _ (fun k S1 h1 => ?_) (fun _ _ z => z) (h Γ S hI)
      cases k with
      | false => exact h1
      | true => exact WSs_mono hC b { D with nx := fun Γ' S' => I Γ' S' ∧ μ Γ' S' < μ Γ S, ct := fun Γ' S' => I Γ' S' ∧ μ Γ' S' < μ Γ S, bk := D.nx } { D with nx := _, ct := _, bk := D.nx } Γ S1 ⟨fun Γ' S' z => ih Γ' S' z.1 (by omega), fun _ _ z => z, fun _ _ z => z, fun Γ' S' z => ih Γ' S' z.1 (by omega), fun _ _ _ z => z⟩ h1
  exact ⟨μ Γ S + 1, key _ Γ S h0 (by omega)⟩
/-- a while whose states are told by a datum, the store as it is -/
theorem wh_ix {C : Orc} (hC : OrcMono C) {α : Type} {t : Te} {b : Sms} {D : AEnds} {S : Sto} (st : α → Env) (P : α → Prop) (μ : α → Nat) (a : α) (h0 : P a)
    (h : ∀ a, P a → WT C t (st a) S (fun k S1 => if k = true then WSs C b { D with nx := fun Γ' S' => ∃ a', Γ' = st a' ∧ S' = S ∧ P a' ∧ μ a' < μ a, ct := fun Γ' S' => ∃ a', Γ' = st a' ∧ S' = S ∧ P a' ∧ μ a' < μ a, bk := D.nx } (st a) S1 else D.nx (st a) S1) (fun x S1 => D.ex x (st a) S1)) :
    WS C (.whil t b) D (st a) S := by
  have key : ∀ (m : Nat) (a : α), P a → μ a < m → whN (fun Γ S P => WT C t Γ S P (fun x S1 => D.ex x Γ S1)) (fun Nx Γ S => WSs C b { D with nx := Nx, ct := Nx, bk := D.nx } Γ S) D.nx m (st a) S := by
    intro m
    induction m with
    | zero => intro a _ hm; omega
    | succ m ih =>
      intro a hI hm
      refine WT_mono hC t _ S _ _ _ _ (fun k S1 h1 => ?_) (fun _ _ z => z) (h a hI)
      cases k with
      | false => exact h1
      | true => exact WSs_mono hC b { D with nx := fun Γ' S' => ∃ a', Γ' = st a' ∧ S' = S ∧ P a' ∧ μ a' < μ a, ct := fun Γ' S' => ∃ a', Γ' = st a' ∧ S' = S ∧ P a' ∧ μ a' < μ a, bk := D.nx } { D with nx := _, ct := _, bk := D.nx } _ S1 ⟨fun Γ' S' ⟨a', e1, e2, z, l⟩ => by rw [e1, e2]; exact ih a' z (by omega), fun _ _ z => z, fun _ _ z => z, fun Γ' S' ⟨a', e1, e2, z, l⟩ => by rw [e1, e2]; exact ih a' z (by omega), fun _ _ _ z => z⟩ h1
  exact ⟨μ a + 1, key _ a h0 (by omega)⟩
theorem st_set0 {o : Option Va} {r : Env} {v : Option Va} : List.set (o :: r) 0 v = v :: r := rfl
theorem st_setS {o : Option Va} {r : Env} {v : Option Va} {i : Nat} : List.set (o :: r) (i + 1) v = o :: List.set r i v := rfl
theorem iteTrue {A B : Prop} : (if (true : Bool) = true then A else B) = A := if_pos rfl
theorem iteFalse {A B : Prop} : (if (false : Bool) = true then A else B) = B := if_neg (by decide)
theorem iteDec {p A B : Prop} [Decidable p] : (if decide p = true then A else B) = (if p then A else B) := by
  by_cases h : p <;> simp [h]
theorem iteNDec {p A B : Prop} [Decidable p] : (if (!decide p) = true then A else B) = (if p then B else A) := by
  by_cases h : p <;> simp [h]
theorem exSome {α : Type} {a : α} {P : α → Prop} : (∃ v, some a = some v ∧ P v) = P a := by
  apply propext
  constructor
  · rintro ⟨v, e, h⟩; cases e; exact h
  · exact fun h => ⟨a, rfl, h⟩
theorem exBl {a : Bool} {P : Bool → Prop} : (∃ b, Va.bl a = Va.bl b ∧ P b) = P a := by
  apply propext
  constructor
  · rintro ⟨v, e, h⟩; cases e; exact h
  · exact fun h => ⟨a, rfl, h⟩
/-! ### the equations, by constructor -/
section
variable {C : Orc} {Γ : Env} {S : Sto} {P : PV} {E : PX} {D : AEnds} {Q : Bool → Sto → Prop} {R : PL}
theorem W_var {i} : W C (.var i) Γ S P E = ∃ v, gt Γ i = some v ∧ P v S := rfl
theorem W_int {i} : W C (.int i) Γ S P E = P (.int i) S := rfl
theorem W_bl {i} : W C (.bl i) Γ S P E = P (.bl i) S := rfl
theorem W_non : W C .non Γ S P E = P .non S := rfl
theorem W_str {i} : W C (.str i) Γ S P E = P (.str i) S := rfl
theorem W_tup {es} : W C (.tup es) Γ S P E = WL C es Γ S (fun vs S1 => vs.length ≤ 1000 ∧ P (.tup vs) S1) E := rfl
theorem W_lst {es} : W C (.lst es) Γ S P E = WL C es Γ S (fun vs S1 => vs.length ≤ 1000 ∧ P (.loc S1.length) (S1 ++ [.lst vs])) E := rfl
theorem W_bin {op a b} : W C (.bin op a b) Γ S P E = W C a Γ S (fun x S1 => W C b Γ S1 (fun y S2 => wBin op x y S2 P) E) E := rfl
theorem W_neg {a} : W C (.neg a) Γ S P E = W C a Γ S (fun x S1 => wNeg x S1 P) E := rfl
theorem W_cmp {op a b} : W C (.cmp op a b) Γ S P E = W C a Γ S (fun x S1 => W C b Γ S1 (fun y S2 => wCmp op x y S2 P) E) E := rfl
theorem W_isN {a} : W C (.isN a) Γ S P E = W C a Γ S (fun x S1 => P (.bl (isNon x)) S1) E := rfl
theorem W_notN {a} : W C (.notN a) Γ S P E = W C a Γ S (fun x S1 => P (.bl (!isNon x)) S1) E := rfl
theorem W_sortk {a q} : W C (.sortk a q) Γ S P E = W C a Γ S (fun x S1 => ∃ (i : Nat) (bs : List (Va × PyData)), S1[i]? = some (.tab q) ∧ LV S1 x (bs.map (·.1)) ∧ (∀ b ∈ bs, ∃ k r, b.1 = .tup (k :: r) ∧ DV S1 k b.2 ∧ tupD b.2 = true) ∧ PySem.W.AllAlike (bs.map (·.2)) ∧ PySem.W.Sortable (bs.map (·.2)) ∧ (∀ b ∈ bs, b.2.depth ≤ 60) ∧ P (.loc S1.length) (S1 ++ [.lst ((bs.mergeSort (PySem.W.dataLe true (·.2))).map (·.1))])) E := rfl
theorem W_maxd {a d} : W C (.maxd a d) Γ S P E = W C a Γ S (fun x S1 => W C d Γ S1 (fun z S2 => ∃ xs ds, LV S2 x xs ∧ DVs S2 xs ds ∧ PySem.W.AlikeAll ds ∧ PyData.depthAll ds ≤ 60 ∧ (ds = [] → P z S2) ∧ ∀ (y : PyData) (ys : List PyData) (i : Nat) (v : Va), ds = y :: ys → xs[i]? = some v → ds[i]? = some (PySem.W.maxD y ys) → P v S2) E) E := rfl
theorem W_lrev {a} : W C (.lrev a) Γ S P E = W C a Γ S (fun x S1 => ∃ xs, (LV S1 x xs ∨ x = .tup xs) ∧ P (.loc S1.length) (S1 ++ [.lst xs.reverse])) E := rfl
theorem W_chain3 {op op' op'' a b c d} : W C (.chain3 op op' op'' a b c d) Γ S P E = W C a Γ S (fun x S1 => W C b Γ S1 (fun y S2 => wCmp op x y S2 (fun z S3 => ∃ k, z = .bl k ∧ if k = true then W C c Γ S3 (fun u S4 => wCmp op' y u S4 (fun z S5 => ∃ k, z = .bl k ∧ if k = true then W C d Γ S5 (fun v S6 => wCmp op'' u v S6 P) E else P (.bl false) S5)) E else P (.bl false) S3)) E) E := rfl
theorem W_chain {op op' a b c} : W C (.chain op op' a b c) Γ S P E = W C a Γ S (fun x S1 => W C b Γ S1 (fun y S2 => wCmp op x y S2 (fun z S3 => ∃ k, z = .bl k ∧ if k = true then W C c Γ S3 (fun u S4 => wCmp op' y u S4 P) E else P (.bl false) S3)) E) E := rfl
theorem W_tst {t} : W C (.tst t) Γ S P E = WB C t Γ S P E := rfl
theorem W_ite {t a b} : W C (.ite t a b) Γ S P E = WT C t Γ S (fun k S1 => if k = true then W C a Γ S1 P E else W C b Γ S1 P E) E := rfl
theorem W_call {f es} : W C (.call f es) Γ S P E = WL C es Γ S (fun vs S1 => C.run f vs S1 P E) E := rfl
theorem W_evens {a} : W C (.evens a) Γ S P E = W C a Γ S (fun x S1 => ∃ xs, LV S1 x xs ∧ P (.loc S1.length) (S1 ++ [.lst (evensL xs)])) E := rfl
theorem W_callv {i es} : W C (.callv i es) Γ S P E = ∃ z ws, gt Γ i = some (.fnv z ws) ∧ z ∈ C.fns ∧ WL C es Γ S (fun vs S1 => C.run z.id (vs ++ ws) S1 P E) E := rfl
theorem W_callc {f es id q js} : W C (.callc f es id q js) Γ S P E = ∃ ws, capsA Γ js = some ws ∧ WL C es Γ S (fun vs S1 => hasTab S1 q ∧ ∀ z : Clo, z.id = id → C.runC z f (vs ++ [.fnv z ws]) S1 P E) E := rfl
theorem W_mcallc {o m es id q js} : W C (.mcallc o m es id q js) Γ S P E = ∃ ws, capsA Γ js = some ws ∧ W C o Γ S (fun x S1 => ∃ k, x = .loc k ∧ ∃ ob, S1[k]? = some ob ∧ ∃ key, mkey C m ob = some key ∧ WL C es Γ S1 (fun vs S2 => hasTab S2 q ∧ ∀ z : Clo, z.id = id → C.runC z key (x :: vs ++ [.fnv z ws]) S2 P E) E) E := rfl
theorem W_len {a} : W C (.len a) Γ S P E = W C a Γ S (fun x S1 => wLen x S1 P) E := rfl
theorem W_abs {a} : W C (.abs a) Γ S P E = W C a Γ S (fun x S1 => wAbs x S1 P) E := rfl
theorem W_isi {a t} : W C (.isi a t) Γ S P E = W C a Γ S (fun x S1 => ∃ b, tyIs S1 x t = some b ∧ P (.bl b) S1) E := rfl
theorem W_sub {a i} : W C (.sub a i) Γ S P E = W C a Γ S (fun x S1 => W C i Γ S1 (fun y S2 => wSub x y S2 P) E) E := rfl
theorem WT_val {e} : WT C (.val e) Γ S Q E = W C e Γ S (fun v S1 => ∃ b, tru S1 v = some b ∧ Q b S1) E := rfl
theorem WT_not {t} : WT C (.not t) Γ S Q E = WT C t Γ S (fun b S1 => Q (!b) S1) E := rfl
theorem WT_and {ts} : WT C (.and ts) Γ S Q E = WA C ts Γ S Q E := rfl
theorem WT_or {ts} : WT C (.or ts) Γ S Q E = WO C ts Γ S Q E := rfl
theorem WA_one {t} : WA C (.one t) Γ S Q E = WT C t Γ S Q E := rfl
theorem WA_cons {t ts} : WA C (.cons t ts) Γ S Q E = WT C t Γ S (fun b S1 => if b = true then WA C ts Γ S1 Q E else Q false S1) E := rfl
theorem WO_one {t} : WO C (.one t) Γ S Q E = WT C t Γ S Q E := rfl
theorem WO_cons {t ts} : WO C (.cons t ts) Γ S Q E = WT C t Γ S (fun b S1 => if b = true then Q true S1 else WO C ts Γ S1 Q E) E := rfl
theorem WB_val {e} : WB C (.val e) Γ S P E = W C e Γ S P E := rfl
theorem WB_not {t} : WB C (.not t) Γ S P E = WB C t Γ S (fun v S1 => ∃ b, v = .bl b ∧ P (.bl (!b)) S1) E := rfl
theorem WB_and {ts} : WB C (.and ts) Γ S P E = WBA C ts Γ S P E := rfl
theorem WB_or {ts} : WB C (.or ts) Γ S P E = WBO C ts Γ S P E := rfl
theorem WBA_one {t} : WBA C (.one t) Γ S P E = WB C t Γ S P E := rfl
theorem WBA_cons {t ts} : WBA C (.cons t ts) Γ S P E = WB C t Γ S (fun v S1 => ∃ b, tru S1 v = some b ∧ if b = true then WBA C ts Γ S1 P E else P v S1) E := rfl
theorem WBO_one {t} : WBO C (.one t) Γ S P E = WB C t Γ S P E := rfl
theorem WBO_cons {t ts} : WBO C (.cons t ts) Γ S P E = WB C t Γ S (fun v S1 => ∃ b, tru S1 v = some b ∧ if b = true then P v S1 else WBO C ts Γ S1 P E) E := rfl
theorem WL_nil : WL C .nil Γ S R E = R [] S := rfl
theorem WL_cons {e es} : WL C (.cons e es) Γ S R E = W C e Γ S (fun v S1 => WL C es Γ S1 (fun vs S2 => R (v :: vs) S2) E) E := rfl
theorem WS_set {i e} : WS C (.set i e) D Γ S = W C e Γ S (fun v S1 => D.nx (Γ.set i (some v)) S1) (fun x S1 => D.ex x Γ S1) := rfl
theorem WS_ret {e} : WS C (.ret e) D Γ S = W C e Γ S D.rt (fun x S1 => D.ex x Γ S1) := rfl
theorem WS_retN : WS C .retN D Γ S = D.rt .non S := rfl
theorem WS_pass : WS C .pass D Γ S = D.nx Γ S := rfl
theorem WS_brk : WS C .brk D Γ S = D.bk Γ S := rfl
theorem WS_cont : WS C .cont D Γ S = D.ct Γ S := rfl
theorem WS_drop {e} : WS C (.drop e) D Γ S = W C e Γ S (fun _ S1 => D.nx Γ S1) (fun x S1 => D.ex x Γ S1) := rfl
theorem WS_ite {t a b} : WS C (.ite t a b) D Γ S = WT C t Γ S (fun k S1 => if k = true then WSs C a D Γ S1 else WSs C b D Γ S1) (fun x S1 => D.ex x Γ S1) := rfl
theorem WS_raise {x} : WS C (.raise x) D Γ S = D.ex x Γ S := rfl
theorem WSs_nil : WSs C .nil D Γ S = D.nx Γ S := rfl
theorem WSs_cons {s ss} : WSs C (.cons s ss) D Γ S = WS C s { D with nx := fun Γ S => WSs C ss D Γ S } Γ S := rfl
theorem Ss_set {i e ss} : WSs C (.cons (.set i e) ss) D Γ S = W C e Γ S (fun v S1 => WSs C ss D (Γ.set i (some v)) S1) (fun x S1 => D.ex x Γ S1) := rfl
theorem Ss_ret {e ss} : WSs C (.cons (.ret e) ss) D Γ S = W C e Γ S D.rt (fun x S1 => D.ex x Γ S1) := rfl
theorem Ss_retN {ss} : WSs C (.cons .retN ss) D Γ S = D.rt .non S := rfl
theorem Ss_pass {ss} : WSs C (.cons .pass ss) D Γ S = WSs C ss D Γ S := rfl
theorem Ss_brk {ss} : WSs C (.cons .brk ss) D Γ S = D.bk Γ S := rfl
theorem Ss_cont {ss} : WSs C (.cons .cont ss) D Γ S = D.ct Γ S := rfl
theorem Ss_drop {e ss} : WSs C (.cons (.drop e) ss) D Γ S = W C e Γ S (fun _ S1 => WSs C ss D Γ S1) (fun x S1 => D.ex x Γ S1) := rfl
theorem Ss_raise {x ss} : WSs C (.cons (.raise x) ss) D Γ S = D.ex x Γ S := rfl
/-- a branch that goes on nowhere -/
theorem Ss_ite_ret {t e r b ss} : WSs C (.cons (.ite t (.cons (.ret e) r) b) ss) D Γ S = WT C t Γ S (fun k S1 => if k = true then W C e Γ S1 D.rt (fun x S1 => D.ex x Γ S1) else WSs C b { D with nx := fun Γ S => WSs C ss D Γ S } Γ S1) (fun x S1 => D.ex x Γ S1) := rfl
theorem Ss_ite_retN {t r b ss} : WSs C (.cons (.ite t (.cons .retN r) b) ss) D Γ S = WT C t Γ S (fun k S1 => if k = true then D.rt .non S1 else WSs C b { D with nx := fun Γ S => WSs C ss D Γ S } Γ S1) (fun x S1 => D.ex x Γ S1) := rfl
theorem Ss_ite_raise {t x r b ss} : WSs C (.cons (.ite t (.cons (.raise x) r) b) ss) D Γ S = WT C t Γ S (fun k S1 => if k = true then D.ex x Γ S1 else WSs C b { D with nx := fun Γ S => WSs C ss D Γ S } Γ S1) (fun x S1 => D.ex x Γ S1) := rfl
theorem Ss_ite_cont {t r b ss} : WSs C (.cons (.ite t (.cons .cont r) b) ss) D Γ S = WT C t Γ S (fun k S1 => if k = true then D.ct Γ S1 else WSs C b { D with nx := fun Γ S => WSs C ss D Γ S } Γ S1) (fun x S1 => D.ex x Γ S1) := rfl
theorem Ss_ite_brk {t r b ss} : WSs C (.cons (.ite t (.cons .brk r) b) ss) D Γ S = WT C t Γ S (fun k S1 => if k = true then D.bk Γ S1 else WSs C b { D with nx := fun Γ S => WSs C ss D Γ S } Γ S1) (fun x S1 => D.ex x Γ S1) := rfl
/-- the last statement -/
theorem Ss_ite_last {t a b} : WSs C (.cons (.ite t a b) .nil) D Γ S = WT C t Γ S (fun k S1 => if k = true then WSs C a D Γ S1 else WSs C b D Γ S1) (fun x S1 => D.ex x Γ S1) := rfl
/-- .. any other: both ways -/
theorem Ss_ite {t a b ss} : WSs C (.cons (.ite t a b) ss) D Γ S = WT C t Γ S (fun k S1 => if k = true then WSs C a { D with nx := fun Γ S => WSs C ss D Γ S } Γ S1 else WSs C b { D with nx := fun Γ S => WSs C ss D Γ S } Γ S1) (fun x S1 => D.ex x Γ S1) := rfl
theorem gt_0 {o : Option Va} {r : Env} : gt (o :: r) 0 = o := rfl
theorem gt_S {o : Option Va} {r : Env} {i : Nat} : gt (o :: r) (i + 1) = gt r i := rfl
theorem wAdd_int {i j : Int} : wBin .add (.int i) (.int j) S P = P (.int (i + j)) S := rfl
theorem wSub_int {i j : Int} : wBin .sub (.int i) (.int j) S P = P (.int (i - j)) S := rfl
theorem wMul_rep {k : Nat} {i : Int} : wBin .mul (.loc k) (.int i) S P = ∃ xs, S[k]? = some (.lst xs) ∧ -(2 ^ 62) ≤ i ∧ i < 2 ^ 62 ∧ xs.length * i.toNat ≤ 1000000 ∧ P (.loc S.length) (S ++ [.lst (List.replicate i.toNat xs).flatten]) := rfl
theorem wMul_str {z : Str} {i : Int} : wBin .mul (.str z) (.int i) S P = (2 ≤ i ∧ i < 2 ^ 31 ∧ 0 < z.length ∧ z.length * i.toNat ≤ 1000000 ∧ P (.str ⟨(List.replicate i.toNat z.cps).foldl (· ++ ·) #[]⟩) S) := rfl
theorem wMul_int {i j : Int} : wBin .mul (.int i) (.int j) S P = (CMulA i j ∧ P (.int (i * j)) S) := rfl
theorem wDiv_int {i j : Int} : wBin .fdiv (.int i) (.int j) S P = (CDivA j ∧ P (.int (i.fdiv j)) S) := rfl
theorem wMod_int {i j : Int} : wBin .mod (.int i) (.int j) S P = (j ≠ 0 ∧ P (.int (i.fmod j)) S) := rfl
theorem wPow_int {i j : Int} : wBin .pow (.int i) (.int j) S P = (CPow i j ∧ P (.int (i ^ j.toNat)) S) := rfl
theorem wAdd_str {i j : Str} : wBin .add (.str i) (.str j) S P = (i.length + j.length ≤ sizeLine ∧ P (.str (i ++ j)) S) := rfl
theorem wNeg_int {i : Int} : wNeg (.int i) S P = P (.int (-i)) S := rfl
theorem wAbs_int {i : Int} : wAbs (.int i) S P = P (.int (if i < 0 then -i else i)) S := rfl
theorem wLt_int {i j : Int} : wCmp .lt (.int i) (.int j) S P = P (.bl (decide (i < j))) S := rfl
theorem wLe_int {i j : Int} : wCmp .le (.int i) (.int j) S P = P (.bl (decide (i ≤ j))) S := rfl
theorem wGt_int {i j : Int} : wCmp .gt (.int i) (.int j) S P = P (.bl (decide (j < i))) S := rfl
theorem wGe_int {i j : Int} : wCmp .ge (.int i) (.int j) S P = P (.bl (decide (j ≤ i))) S := rfl
theorem noDEq {x y : Va} (hs : AM.scal x y = true) (h : DEq S x y) : False := by
  obtain ⟨ks, ls, h1, _⟩ := h
  rcases h1 with rfl | ⟨k, rfl, _⟩ <;> cases y <;> cases hs
theorem eq_data {x y : Va} (hs : AM.scal x y = true) (he : ∀ d e, DV S x d → DV S y e → PyData.eqv d e = eqF x y) : wCmp .eq x y S P = P (.bl (eqF x y)) S := by
  apply propext
  simp only [wCmp]
  constructor
  · rintro ((⟨_, h⟩ | ⟨h1, _⟩) | ⟨d, e, h1, h2, _, _, h⟩)
    · exact h
    · exact (noDEq hs h1).elim
    · rwa [he d e h1 h2] at h
  · exact fun h => .inl (.inl ⟨hs, h⟩)
theorem ne_data {x y : Va} (hs : AM.scal x y = true) (he : ∀ d e, DV S x d → DV S y e → PyData.eqv d e = eqF x y) : wCmp .ne x y S P = P (.bl (!eqF x y)) S := by
  apply propext
  simp only [wCmp]
  constructor
  · rintro ((⟨_, h⟩ | ⟨h1, _⟩) | ⟨d, e, h1, h2, _, _, h⟩)
    · exact h
    · exact (noDEq hs h1).elim
    · rwa [he d e h1 h2] at h
  · exact fun h => .inl (.inl ⟨hs, h⟩)
theorem wEq_int {i j : Int} : wCmp .eq (.int i) (.int j) S P = P (.bl (decide (i = j))) S := eq_data rfl fun d e h1 h2 => by
  cases h1; cases h2; simp [PyData.eqv, eqF, Bool.beq_eq_decide_eq]
theorem wNe_int {i j : Int} : wCmp .ne (.int i) (.int j) S P = P (.bl (!decide (i = j))) S := ne_data rfl fun d e h1 h2 => by
  cases h1; cases h2; simp [PyData.eqv, eqF, Bool.beq_eq_decide_eq]
theorem wEq_bl {i j : Bool} : wCmp .eq (.bl i) (.bl j) S P = P (.bl (decide (i = j))) S := eq_data rfl fun d e h1 h2 => by
  cases h1; cases h2; simp [PyData.eqv, eqF, Bool.beq_eq_decide_eq]
theorem wNe_bl {i j : Bool} : wCmp .ne (.bl i) (.bl j) S P = P (.bl (!decide (i = j))) S := ne_data rfl fun d e h1 h2 => by
  cases h1; cases h2; simp [PyData.eqv, eqF, Bool.beq_eq_decide_eq]
theorem wEq_str {i j : Str} : wCmp .eq (.str i) (.str j) S P = P (.bl (decide (i = j))) S := eq_data rfl fun d e h1 h2 => by
  cases h1; cases h2; simp [PyData.eqv, eqF, Bool.beq_eq_decide_eq]
theorem wNe_str {i j : Str} : wCmp .ne (.str i) (.str j) S P = P (.bl (!decide (i = j))) S := ne_data rfl fun d e h1 h2 => by
  cases h1; cases h2; simp [PyData.eqv, eqF, Bool.beq_eq_decide_eq]
theorem wLen_tup {xs : List Va} : wLen (.tup xs) S P = P (.int xs.length) S := rfl
theorem wLen_lst {xs : List Va} : wLen (.lst xs) S P = P (.int xs.length) S := rfl
theorem tru_bl {b : Bool} : tru S (.bl b) = some b := rfl
theorem tru_int {i : Int} : tru S (.int i) = some (i != 0) := rfl
theorem ty_int_int {i : Int} : tyIs S (.int i) .int = some true := rfl
theorem ty_int_bool {i : Int} : tyIs S (.int i) .bool = some false := rfl
theorem ty_int_str {i : Int} : tyIs S (.int i) .str = some false := rfl
theorem ty_int_tuple {i : Int} : tyIs S (.int i) .tuple = some false := rfl
theorem ty_int_list {i : Int} : tyIs S (.int i) .list = some false := rfl
theorem ty_int_dict {i : Int} : tyIs S (.int i) .dict = some false := rfl
theorem ty_bl_int {i : Bool} : tyIs S (.bl i) .int = some true := rfl
theorem ty_bl_bool {i : Bool} : tyIs S (.bl i) .bool = some true := rfl
theorem ty_bl_str {i : Bool} : tyIs S (.bl i) .str = some false := rfl
theorem ty_bl_tuple {i : Bool} : tyIs S (.bl i) .tuple = some false := rfl
theorem ty_bl_list {i : Bool} : tyIs S (.bl i) .list = some false := rfl
theorem ty_bl_dict {i : Bool} : tyIs S (.bl i) .dict = some false := rfl
theorem ty_str_int {i : Str} : tyIs S (.str i) .int = some false := rfl
theorem ty_str_bool {i : Str} : tyIs S (.str i) .bool = some false := rfl
theorem ty_str_str {i : Str} : tyIs S (.str i) .str = some true := rfl
theorem ty_str_tuple {i : Str} : tyIs S (.str i) .tuple = some false := rfl
theorem ty_str_list {i : Str} : tyIs S (.str i) .list = some false := rfl
theorem ty_str_dict {i : Str} : tyIs S (.str i) .dict = some false := rfl
theorem ty_tup_int {i : List Va} : tyIs S (.tup i) .int = some false := rfl
theorem ty_tup_bool {i : List Va} : tyIs S (.tup i) .bool = some false := rfl
theorem ty_tup_str {i : List Va} : tyIs S (.tup i) .str = some false := rfl
theorem ty_tup_tuple {i : List Va} : tyIs S (.tup i) .tuple = some true := rfl
theorem ty_tup_list {i : List Va} : tyIs S (.tup i) .list = some false := rfl
theorem ty_tup_dict {i : List Va} : tyIs S (.tup i) .dict = some false := rfl
theorem ty_lst_int {i : List Va} : tyIs S (.lst i) .int = some false := rfl
theorem ty_lst_bool {i : List Va} : tyIs S (.lst i) .bool = some false := rfl
theorem ty_lst_str {i : List Va} : tyIs S (.lst i) .str = some false := rfl
theorem ty_lst_tuple {i : List Va} : tyIs S (.lst i) .tuple = some false := rfl
theorem ty_lst_list {i : List Va} : tyIs S (.lst i) .list = some true := rfl
theorem ty_lst_dict {i : List Va} : tyIs S (.lst i) .dict = some false := rfl
theorem ty_dct_int {i : List (L2.Key × Va)} : tyIs S (.dct i) .int = some false := rfl
theorem ty_dct_bool {i : List (L2.Key × Va)} : tyIs S (.dct i) .bool = some false := rfl
theorem ty_dct_str {i : List (L2.Key × Va)} : tyIs S (.dct i) .str = some false := rfl
theorem ty_dct_tuple {i : List (L2.Key × Va)} : tyIs S (.dct i) .tuple = some false := rfl
theorem ty_dct_list {i : List (L2.Key × Va)} : tyIs S (.dct i) .list = some false := rfl
theorem ty_dct_dict {i : List (L2.Key × Va)} : tyIs S (.dct i) .dict = some true := rfl
theorem ty_non {t : Ty} : tyIs S .non t = some false := rfl
theorem wSub_tup {xs : List Va} {i : Int} : wSub (.tup xs) (.int i) S P = ∃ v, L2.atI xs i = some v ∧ P v S := rfl
theorem wSub_lst {xs : List Va} {i : Int} : wSub (.lst xs) (.int i) S P = ∃ v, L2.atI xs i = some v ∧ P v S := rfl
theorem sub_tup0 {x0 : Va} {xs : List Va} : wSub (.tup (x0 :: xs)) (.int 0) S P = P x0 S := by
  have h : L2.atI (x0 :: xs) 0 = some x0 := L2.atI_nat (j := 0) rfl
  rw [wSub_tup, h, exSome]
theorem sub_tup1 {x0 x1 : Va} {xs : List Va} : wSub (.tup (x0 :: x1 :: xs)) (.int 1) S P = P x1 S := by
  have h : L2.atI (x0 :: x1 :: xs) 1 = some x1 := L2.atI_nat (j := 1) rfl
  rw [wSub_tup, h, exSome]
theorem sub_tup2 {x0 x1 x2 : Va} {xs : List Va} : wSub (.tup (x0 :: x1 :: x2 :: xs)) (.int 2) S P = P x2 S := by
  have h : L2.atI (x0 :: x1 :: x2 :: xs) 2 = some x2 := L2.atI_nat (j := 2) rfl
  rw [wSub_tup, h, exSome]
theorem sub_tup3 {x0 x1 x2 x3 : Va} {xs : List Va} : wSub (.tup (x0 :: x1 :: x2 :: x3 :: xs)) (.int 3) S P = P x3 S := by
  have h : L2.atI (x0 :: x1 :: x2 :: x3 :: xs) 3 = some x3 := L2.atI_nat (j := 3) rfl
  rw [wSub_tup, h, exSome]
theorem sub_tup4 {x0 x1 x2 x3 x4 : Va} {xs : List Va} : wSub (.tup (x0 :: x1 :: x2 :: x3 :: x4 :: xs)) (.int 4) S P = P x4 S := by
  have h : L2.atI (x0 :: x1 :: x2 :: x3 :: x4 :: xs) 4 = some x4 := L2.atI_nat (j := 4) rfl
  rw [wSub_tup, h, exSome]
theorem sub_tup5 {x0 x1 x2 x3 x4 x5 : Va} {xs : List Va} : wSub (.tup (x0 :: x1 :: x2 :: x3 :: x4 :: x5 :: xs)) (.int 5) S P = P x5 S := by
  have h : L2.atI (x0 :: x1 :: x2 :: x3 :: x4 :: x5 :: xs) 5 = some x5 := L2.atI_nat (j := 5) rfl
  rw [wSub_tup, h, exSome]
theorem sub_lst0 {x0 : Va} {xs : List Va} : wSub (.lst (x0 :: xs)) (.int 0) S P = P x0 S := by
  have h : L2.atI (x0 :: xs) 0 = some x0 := L2.atI_nat (j := 0) rfl
  rw [wSub_lst, h, exSome]
theorem sub_lst1 {x0 x1 : Va} {xs : List Va} : wSub (.lst (x0 :: x1 :: xs)) (.int 1) S P = P x1 S := by
  have h : L2.atI (x0 :: x1 :: xs) 1 = some x1 := L2.atI_nat (j := 1) rfl
  rw [wSub_lst, h, exSome]
theorem sub_lst2 {x0 x1 x2 : Va} {xs : List Va} : wSub (.lst (x0 :: x1 :: x2 :: xs)) (.int 2) S P = P x2 S := by
  have h : L2.atI (x0 :: x1 :: x2 :: xs) 2 = some x2 := L2.atI_nat (j := 2) rfl
  rw [wSub_lst, h, exSome]
theorem sub_lst3 {x0 x1 x2 x3 : Va} {xs : List Va} : wSub (.lst (x0 :: x1 :: x2 :: x3 :: xs)) (.int 3) S P = P x3 S := by
  have h : L2.atI (x0 :: x1 :: x2 :: x3 :: xs) 3 = some x3 := L2.atI_nat (j := 3) rfl
  rw [wSub_lst, h, exSome]
theorem sub_lst4 {x0 x1 x2 x3 x4 : Va} {xs : List Va} : wSub (.lst (x0 :: x1 :: x2 :: x3 :: x4 :: xs)) (.int 4) S P = P x4 S := by
  have h : L2.atI (x0 :: x1 :: x2 :: x3 :: x4 :: xs) 4 = some x4 := L2.atI_nat (j := 4) rfl
  rw [wSub_lst, h, exSome]
theorem sub_lst5 {x0 x1 x2 x3 x4 x5 : Va} {xs : List Va} : wSub (.lst (x0 :: x1 :: x2 :: x3 :: x4 :: x5 :: xs)) (.int 5) S P = P x5 S := by
  have h : L2.atI (x0 :: x1 :: x2 :: x3 :: x4 :: x5 :: xs) 5 = some x5 := L2.atI_nat (j := 5) rfl
  rw [wSub_lst, h, exSome]
end
/-- two statements, by what holds between -/
theorem seq_cut {C : Orc} (hC : OrcMono C) {s : Sm} {ss : Sms} {D : AEnds} {Γ : Env} {S : Sto} (M : Env → Sto → Prop) (h1 : WS C s { D with nx := M } Γ S) (h2 : ∀ Γ' S', M Γ' S' → WSs C ss D Γ' S') : WSs C (.cons s ss) D Γ S :=
  WS_mono hC s { D with nx := M } { D with nx := fun Γ S => WSs C ss D Γ S } Γ S ⟨h2, fun _ _ z => z, fun _ _ z => z, fun _ _ z => z, fun _ _ _ z => z⟩ h1
/-- .. where the environment and the store behind the first are known -/
theorem seq_to {C : Orc} (hC : OrcMono C) {s : Sm} {ss : Sms} {D : AEnds} {Γ : Env} {S : Sto} (Γ1 : Env) (S1 : Sto) (h1 : WS C s { D with nx := fun Γ' S' => Γ' = Γ1 ∧ S' = S1 } Γ S) (h2 : WSs C ss D Γ1 S1) : WSs C (.cons s ss) D Γ S :=
  seq_cut hC _ h1 (fun Γ' S' ⟨e1, e2⟩ => by rw [e1, e2]; exact h2)
theorem startA_eq {N : List Str} {as : List Va} : startA N as = as.map some ++ List.replicate (N.length - as.length) none := rfl
/-! ### lists, walks -/
/-- the turns of a for -/
def forB (C : Orc) (tg : Tg) (b : Sms) (D : AEnds) (G : Sto → Prop) (xs : List Va) (Γ : Env) (S : Sto) : Prop :=
  frL (fun x Γ S => bindT S tg x Γ) (fun Nx Γ S => WSs C b { D with nx := Nx, ct := Nx, bk := D.nx } Γ S) G D.nx xs Γ S
/-- the turns of a comprehension -/
def cpB (C : Orc) (own : List Nat) (elt : Ex) (tg : Tg) (cond : Tes0) (G : Sto → Prop) (d : Nat) (P : PV) (xs : List Va) (Γ : Env) (S : Sto) : Prop :=
  cpL (fun x S => bindT S tg x (wipeA Γ own)) (fun Γ S Q => WT0 C cond Γ S Q) (fun Γ S Q => W C elt Γ S Q (fun _ _ => False)) G d P xs S
section
variable {C : Orc} {Γ : Env} {S : Sto} {P : PV} {E : PX} {D : AEnds} {Q : Bool → Sto → Prop} {R : PL} {I : PI_} {O : Option Int → Sto → Prop}
theorem W_slice {a lo hi} : W C (.slice a lo hi) Γ S P E = W C a Γ S (fun x S1 => WOe C lo Γ S1 (fun l S2 => WOe C hi Γ S2 (fun h S3 => wSlice x l h S3 P) E) E) E := rfl
theorem W_blt {f es} : W C (.blt f es) Γ S P E = WL C es Γ S (fun vs S1 => wBlt f vs S1 P) E := rfl
theorem W_mth {m o es} : W C (.mth m o es) Γ S P E = W C o Γ S (fun x S1 => mOk S1 m x ∧ WL C es Γ S1 (fun vs S2 => wMth m x vs S2 P) E) E := rfl
theorem WOe_none : WOe C .none Γ S O E = O none S := rfl
theorem WOe_some {e} : WOe C (.some e) Γ S O E = W C e Γ S (fun v S1 => ∃ i, v = .int i ∧ O (some i) S1) E := rfl
theorem WI_seq {e} : WI C (.seq e) Γ S I E = W C e Γ S (fun v S1 => wSeq v S1 I) E := rfl
theorem WI_range1 {a} : WI C (.range1 a) Γ S I E = W C a Γ S (fun v S1 => ∃ i : Int, v = .int i ∧ -(2 ^ 62) ≤ i ∧ i < 2 ^ 62 ∧ I (rangeV 0 i.toNat) (fun _ => True) S1) E := rfl
theorem WI_keys {e} : WI C (.keys e) Γ S I E = W C e Γ S (fun v S1 => ∃ k, v = .loc k ∧ ∃ kvs, S1[k]? = some (.lok kvs) ∧ I (kvs.map fun kv => keyA kv.1) (fun _ => True) S1) E := rfl
theorem WI_items {e} : WI C (.items e) Γ S I E = W C e Γ S (fun v S1 => ∃ k, v = .loc k ∧ ∃ kvs, S1[k]? = some (.lok kvs) ∧ I (kvs.map fun kv => .tup [keyA kv.1, kv.2]) (fun _ => True) S1) E := rfl
theorem subO_k {kvs y} : subO (.lok kvs) y S P = ∃ kk, keyV y = some kk ∧ ∃ v, dget kvs kk = some v ∧ P v S := by cases y <;> rfl
theorem WI_range2 {a b} : WI C (.range2 a b) Γ S I E = W C a Γ S (fun v S1 => W C b Γ S1 (fun u S2 => ∃ i : Int, v = .int i ∧ ∃ j : Int, u = .int j ∧ (-(2 ^ 62) ≤ i ∧ i < 2 ^ 62 ∧ -(2 ^ 62) ≤ j ∧ j < 2 ^ 62) ∧ I (rangeV i (j - i).toNat) (fun _ => True) S2) E) E := rfl
theorem WI_enum {e} : WI C (.enum e) Γ S I E = W C e Γ S (fun v S1 => wEn v S1 fun xs G S2 => I (enumV 0 xs) G S2) E := rfl
theorem WI_zip {a b} : WI C (.zip a b) Γ S I E = W C a Γ S (fun v S1 => W C b Γ S1 (fun u S2 => wLst v S2 fun xs G S3 => wLst u S3 fun ys G' S4 => I (zipV xs ys) (fun S' => G S' ∧ G' S') S4) E) E := rfl
theorem WI_revr {a} : WI C (.revr a) Γ S I E = W C a Γ S (fun v S1 => ∃ i : Int, v = .int i ∧ (-(2 ^ 62) ≤ i ∧ i < 2 ^ 62) ∧ I (rangeDV (((i.toNat : Nat) : Int) - 1) i.toNat) (fun _ => True) S1) E := rfl
theorem WI_rangeD {a b} : WI C (.rangeD a b) Γ S I E = W C a Γ S (fun v S1 => W C b Γ S1 (fun u S2 => ∃ i : Int, v = .int i ∧ ∃ j : Int, u = .int j ∧ (-(2 ^ 62) ≤ i ∧ i < 2 ^ 62 ∧ -(2 ^ 62) ≤ j ∧ j < 2 ^ 62) ∧ I (rangeDV i (i - j).toNat) (fun _ => True) S2) E) E := rfl
theorem WI_rev {e} : WI C (.rev e) Γ S I E = W C e Γ S (fun v S1 => wLst v S1 fun xs G S2 => I xs.reverse G S2) E := rfl
theorem WT0_none : WT0 C .none Γ S Q = Q true S := rfl
theorem WT0_some {t} : WT0 C (.some t) Γ S Q = WT C t Γ S Q (fun _ _ => False) := rfl
theorem Ss_asg {tg e ss} : WSs C (.cons (.asg tg e) ss) D Γ S = W C e Γ S (fun v S1 => ∃ Γ1, bindT S1 tg v Γ = some Γ1 ∧ WSs C ss D Γ1 S1) (fun x S1 => D.ex x Γ S1) := rfl
theorem Ss_setSub {o i e ss} : WSs C (.cons (.setSub o i e) ss) D Γ S = W C e Γ S (fun v S1 => W C o Γ S1 (fun x S2 => W C i Γ S2 (fun y S3 => ∃ k, x = .loc k ∧ ∃ ob, S3[k]? = some ob ∧ ∃ ob', putO ob y v = some ob' ∧ WSs C ss D Γ (S3.set k ob')) (fun x S1 => D.ex x Γ S1)) (fun x S1 => D.ex x Γ S1)) (fun x S1 => D.ex x Γ S1) := rfl
theorem Ss_aug {i op e ss} : WSs C (.cons (.aug i op e) ss) D Γ S = ∃ x, gt Γ i = some x ∧ W C e Γ S (fun y S1 => ∃ n : Int, x = .int n ∧ ∃ m : Int, y = .int m ∧ ∃ r : Int, augI op n m = some r ∧ WSs C ss D (Γ.set i (some (.int r))) S1) (fun x S1 => D.ex x Γ S1) := rfl
theorem WS_asg {tg e} : WS C (.asg tg e) D Γ S = W C e Γ S (fun v S1 => ∃ Γ1, bindT S1 tg v Γ = some Γ1 ∧ D.nx Γ1 S1) (fun x S1 => D.ex x Γ S1) := rfl
theorem WS_for {tg it b} : WS C (.for_ tg it b) D Γ S = WI C it Γ S (fun xs G S1 => G S1 ∧ forB C tg b D G xs Γ S1) (fun x S1 => D.ex x Γ S1) := rfl
theorem W_comp {own elt tg it cond} : W C (.comp own elt tg it cond) Γ S P E = WI C it Γ S (fun xs G S1 => G (S1 ++ [.lst []]) ∧ cpB C own elt tg cond G S1.length P xs Γ (S1 ++ [.lst []])) E := rfl
theorem Ss_setC {i own elt tg it cond ss} : WSs C (.cons (.setC i own elt tg it cond) ss) D Γ S = WI C it Γ S (fun xs G S1 => G (S1 ++ [.lst []]) ∧ cpB C own elt tg cond G S1.length (fun v S2 => WSs C ss D (Γ.set i (some v)) S2) xs Γ (S1 ++ [.lst []])) (fun x S1 => D.ex x Γ S1) := rfl
theorem WS_setC {i own elt tg it cond} : WS C (.setC i own elt tg it cond) D Γ S = WI C it Γ S (fun xs G S1 => G (S1 ++ [.lst []]) ∧ cpB C own elt tg cond G S1.length (fun v S2 => D.nx (Γ.set i (some v)) S2) xs Γ (S1 ++ [.lst []])) (fun x S1 => D.ex x Γ S1) := rfl
theorem WS_aug {i op e} : WS C (.aug i op e) D Γ S = ∃ x, gt Γ i = some x ∧ W C e Γ S (fun y S1 => ∃ n : Int, x = .int n ∧ ∃ m : Int, y = .int m ∧ ∃ r : Int, augI op n m = some r ∧ D.nx (Γ.set i (some (.int r))) S1) (fun x S1 => D.ex x Γ S1) := rfl
theorem bT_name {i v} : bindT S (.name i) v Γ = some (Γ.set i (some v)) := rfl
theorem bT_tup {ts xs} : bindT S (.tup ts) (.tup xs) Γ = bindTs S ts xs Γ := rfl
theorem bT_lst {ts xs} : bindT S (.tup ts) (.lst xs) Γ = bindTs S ts xs Γ := rfl
theorem bT_loc {ts k xs} (h : S[k]? = some (.lst xs)) : bindT S (.tup ts) (.loc k) Γ = bindTs S ts xs Γ := by
  simp only [bindT, partsOf, h]
theorem bTs_nil : bindTs S .nil [] Γ = some Γ := rfl
theorem bTs_cons {t ts x xs} {Γ1 : Env} (h : bindT S t x Γ = some Γ1) : bindTs S (.cons t ts) (x :: xs) Γ = bindTs S ts xs Γ1 := by
  simp only [bindTs, h]
theorem bTs_name {i ts x xs} : bindTs S (.cons (.name i) ts) (x :: xs) Γ = bindTs S ts xs (Γ.set i (some x)) := rfl
theorem seq_lst {xs} : wSeq (.lst xs) S I = I xs (fun _ => True) S := rfl
theorem seq_tup {xs} : wSeq (.tup xs) S I = I xs (fun _ => True) S := rfl
theorem seq_scr {ns} : wSeq (.scr ns) S I = I (ns.map Va.int) (fun _ => True) S := rfl
theorem seq_str {z} : wSeq (.str z) S I = I (z.cps.toList.map fun c => Va.str ⟨#[c]⟩) (fun _ => True) S := rfl
theorem seq_loc {k} : wSeq (.loc k) S I = ∃ xs, S[k]? = some (.lst xs) ∧ I xs (fun S' => S'[k]? = some (.lst xs)) S := rfl
theorem en_tup {xs} : wEn (.tup xs) S I = I xs (fun _ => True) S := rfl
theorem en_lst {xs} : wEn (.lst xs) S I = I xs (fun _ => True) S := rfl
theorem en_scr {ns} : wEn (.scr ns) S I = I (ns.map Va.int) (fun _ => True) S := rfl
theorem en_loc {k} : wEn (.loc k) S I = ∃ xs, S[k]? = some (.lst xs) ∧ I xs (fun S' => S'[k]? = some (.lst xs)) S := rfl
theorem lst_lst {xs} : wLst (.lst xs) S I = I xs (fun _ => True) S := rfl
theorem lst_scr {ns} : wLst (.scr ns) S I = I (ns.map Va.int) (fun _ => True) S := rfl
theorem lst_loc {k} : wLst (.loc k) S I = ∃ xs, S[k]? = some (.lst xs) ∧ I xs (fun S' => S'[k]? = some (.lst xs)) S := rfl
theorem exInt {a : Int} {P : Int → Prop} : (∃ b, Va.int a = Va.int b ∧ P b) = P a := by
  apply propext
  constructor
  · rintro ⟨v, e, h⟩; cases e; exact h
  · exact fun h => ⟨a, rfl, h⟩
theorem exLoc {a : Nat} {P : Nat → Prop} : (∃ b, Va.loc a = Va.loc b ∧ P b) = P a := by
  apply propext
  constructor
  · rintro ⟨v, e, h⟩; cases e; exact h
  · exact fun h => ⟨a, rfl, h⟩
theorem exLst {a : List Va} {P : List Va → Prop} : (∃ b, some (Ob.lst a) = some (Ob.lst b) ∧ P b) = P a := by
  apply propext
  constructor
  · rintro ⟨v, e, h⟩; cases e; exact h
  · exact fun h => ⟨a, rfl, h⟩
theorem exLst1 {a : List Va} : (∃ b, some (Ob.lst a) = some (Ob.lst b)) = True := by
  apply propext
  exact ⟨fun _ => trivial, fun _ => ⟨a, rfl⟩⟩
theorem exLV_lst {a : List Va} {P : List Va → Prop} : (∃ b, LV S (.lst a) b ∧ P b) = P a := by
  apply propext
  constructor
  · rintro ⟨v, e | ⟨k, e, _⟩, h⟩
    · cases e; exact h
    · cases e
  · exact fun h => ⟨a, .inl rfl, h⟩
theorem exLV_loc {k : Nat} {P : List Va → Prop} : (∃ b, LV S (.loc k) b ∧ P b) = ∃ b, S[k]? = some (.lst b) ∧ P b := by
  apply propext
  constructor
  · rintro ⟨v, e | ⟨k', e, h'⟩, h⟩
    · cases e
    · cases e; exact ⟨v, h', h⟩
  · exact fun ⟨v, h', h⟩ => ⟨v, .inr ⟨k, rfl, h'⟩, h⟩
theorem mOk_loc {m k} (h : ∀ v, mOk S m v = ∃ xs, LV S v xs) : mOk S m (.loc k) = ∃ b, S[k]? = some (.lst b) := by
  rw [h]
  apply propext
  exact ⟨fun ⟨v, q⟩ => by rcases q with e | ⟨k', e, h'⟩ <;> cases e; exact ⟨v, h'⟩, fun ⟨v, q⟩ => ⟨v, .inr ⟨k, rfl, q⟩⟩⟩
theorem mOk_app {k} : mOk S .append (.loc k) = ∃ b, S[k]? = some (.lst b) := mOk_loc (fun _ => rfl)
theorem mOk_pop {k} : mOk S .pop (.loc k) = ∃ b, S[k]? = some (.lst b) := mOk_loc (fun _ => rfl)
theorem mOk_ext {k} : mOk S .extend (.loc k) = ∃ b, S[k]? = some (.lst b) := mOk_loc (fun _ => rfl)
theorem mOk_ins {k} : mOk S .insert (.loc k) = ∃ b, S[k]? = some (.lst b) := mOk_loc (fun _ => rfl)
theorem mOk_ind {k} : mOk S .index (.loc k) = ∃ b, S[k]? = some (.lst b) := mOk_loc (fun _ => rfl)
theorem mOk_join {a} : mOk S .join (.str a) = True := by
  apply propext
  exact ⟨fun _ => trivial, fun _ => ⟨a, rfl⟩⟩
theorem mOk_indl {xs} : mOk S .index (.lst xs) = True := by
  apply propext
  exact ⟨fun _ => trivial, fun _ => ⟨xs, .inl rfl⟩⟩
theorem m_append {k y} : wMth .append (.loc k) [y] S P = ∃ xs, S[k]? = some (.lst xs) ∧ xs.length < 1000000 ∧ P .non (S.set k (.lst (xs ++ [y]))) := rfl
theorem m_pop {k} : wMth .pop (.loc k) [] S P = ∃ xs, S[k]? = some (.lst xs) ∧ ∃ y, xs[xs.length - 1]? = some y ∧ P y (S.set k (.lst xs.dropLast)) := rfl
theorem m_upper {a} : wMth .upper (.str a) [] S P = (a.length ≤ 5592405 ∧ P (.str (Txt.upper a)) S) := rfl
theorem m_partition {a b} : wMth .partition (.str a) [.str b] S P = ((b.length == 0) = false ∧ a.length ≤ sizeLine ∧ P (.tup [.str (Txt.partition a b).1, .str (Txt.partition a b).2.1, .str (Txt.partition a b).2.2]) S) := rfl
theorem m_split {a b} : wMth .split (.str a) [.str b] S P = ((b.length == 0) = false ∧ a.length + 2 ≤ sizeLine ∧ P (.loc S.length) (S ++ [.lst ((Txt.split a b).map Va.str)])) := rfl
theorem m_endswith {a b} : wMth .endswith (.str a) [.str b] S P = P (.bl (Txt.endswith a b)) S := rfl
theorem m_find {a b} : wMth .find (.str a) [.str b] S P = P (.int (Txt.find a b)) S := rfl
theorem mOk_str {m : Mf} {a : Str} (h : m = .upper ∨ m = .partition ∨ m = .split ∨ m = .endswith ∨ m = .find) : mOk S m (.str a) = True := by
  apply propext
  rcases h with rfl | rfl | rfl | rfl | rfl <;> exact ⟨fun _ => trivial, fun _ => ⟨a, rfl⟩⟩
theorem mOk_upper {a : Str} : mOk S .upper (.str a) = True := mOk_str (.inl rfl)
theorem mOk_partition {a : Str} : mOk S .partition (.str a) = True := mOk_str (.inr (.inl rfl))
theorem mOk_split {a : Str} : mOk S .split (.str a) = True := mOk_str (.inr (.inr (.inl rfl)))
theorem mOk_endswith {a : Str} : mOk S .endswith (.str a) = True := mOk_str (.inr (.inr (.inr (.inl rfl))))
theorem mOk_find {a : Str} : mOk S .find (.str a) = True := mOk_str (.inr (.inr (.inr (.inr rfl))))
theorem m_extend {k z} : wMth .extend (.loc k) [z] S P = ∃ xs, S[k]? = some (.lst xs) ∧ ∃ zs, LV S z zs ∧ xs.length + zs.length ≤ 1000000 ∧ P .non (S.set k (.lst (xs ++ zs))) := rfl
theorem m_insert {k i y} : wMth .insert (.loc k) [.int i, y] S P = ∃ xs, S[k]? = some (.lst xs) ∧ xs.length < 1000000 ∧ 0 ≤ i ∧ i < 2 ^ 63 ∧ P .non (S.set k (.lst (xs.take i.toNat ++ [y] ++ xs.drop i.toNat))) := rfl
theorem m_join {a z} : wMth .join (.str a) [z] S P = ∃ ys : List Str, (z = .tup (ys.map Va.str) ∨ LV S z (ys.map Va.str)) ∧ (ys.map PySem.Str.length).sum + ys.length * a.length ≤ 16777216 ∧ P (.str (Txt.join a ys)) S := rfl
theorem b_listL {xs} : wBlt .list [.lst xs] S P = P (.loc S.length) (S ++ [.lst xs]) := rfl
theorem b_listT {xs} : wBlt .list [.tup xs] S P = P (.loc S.length) (S ++ [.lst xs]) := rfl
theorem b_listS {ns} : wBlt .list [.scr ns] S P = P (.loc S.length) (S ++ [.lst (ns.map Va.int)]) := rfl
theorem b_listK {k} : wBlt .list [.loc k] S P = ∃ o, S[k]? = some o ∧ listO o S P := rfl
theorem b_tupL {xs} : wBlt .tuple [.lst xs] S P = P (.tup xs) S := rfl
theorem b_tupT {xs} : wBlt .tuple [.tup xs] S P = P (.tup xs) S := rfl
theorem b_tupK {k} : wBlt .tuple [.loc k] S P = ∃ xs, S[k]? = some (.lst xs) ∧ P (.tup xs) S := rfl
theorem b_max2 {i j} : wBlt .max2 [.int i, .int j] S P = P (.int (if j > i then j else i)) S := rfl
theorem b_min2 {i j} : wBlt .min2 [.int i, .int j] S P = P (.int (if j < i then j else i)) S := rfl
theorem b_ord {x} : wBlt .ord [.str x] S P = (x.length = 1 ∧ P (.int (x.cps.getD 0 0 : Nat)) S) := rfl
theorem b_str {i} : wBlt .str [.int i] S P = (i.natAbs.log2 < 1920 ∧ P (.str (toString i)) S) := rfl
theorem b_sum {v} : wBlt .sum [v] S P = ∃ ns : List Int, LV S v (ns.map Va.int) ∧ P (.int ns.sum) S := rfl
theorem b_maxT {v} : wBlt .maxT [v] S P = ∃ xs ds, LV S v xs ∧ DVs S xs ds ∧ PySem.W.AlikeAll ds ∧ PyData.depthAll ds ≤ 60 ∧ ds ≠ [] ∧ ∀ (y : PyData) (ys : List PyData) (i : Nat) (u : Va), ds = y :: ys → xs[i]? = some u → ds[i]? = some (PySem.W.maxD y ys) → P u S := rfl
theorem b_max1 {v} : wBlt .max1 [v] S P = ∃ ns : List Int, LV S v (ns.map Va.int) ∧ 0 < ns.length ∧ ∀ m, m ∈ ns → (∀ y, y ∈ ns → y ≤ m) → P (.int m) S := rfl
theorem sl_lst {xs lo hi} : wSlice (.lst xs) lo hi S P = P (.loc S.length) (S ++ [.lst (cutA xs lo hi)]) := rfl
theorem sl_loc {k lo hi} : wSlice (.loc k) lo hi S P = ∃ xs, S[k]? = some (.lst xs) ∧ P (.loc S.length) (S ++ [.lst (cutA xs lo hi)]) := rfl
theorem sl_scr {ns lo hi} : wSlice (.scr ns) lo hi S P = P (.loc S.length) (S ++ [.lst ((cutA ns lo hi).map Va.int)]) := rfl
theorem sl_tupE {xs lo hi} : wSlice (.tup xs) lo hi S P = P (.tup (cutA xs lo hi)) S := rfl
theorem sl_strE {z lo hi} : wSlice (.str z) lo hi S P = (z.length ≤ sizeLine ∧ P (.str (L2.cutS z lo hi)) S) := rfl
theorem cat_lst {xs y} : wBin .add (.lst xs) y S P = ∃ b, LV S (.lst xs) b ∧ ∃ ys, LV S y ys ∧ b.length + ys.length ≤ 1000000 ∧ P (.loc S.length) (S ++ [.lst (b ++ ys)]) := rfl
theorem cat_loc {k y} : wBin .add (.loc k) y S P = ∃ b, LV S (.loc k) b ∧ ∃ ys, LV S y ys ∧ b.length + ys.length ≤ 1000000 ∧ P (.loc S.length) (S ++ [.lst (b ++ ys)]) := rfl
theorem cat_tup {xs ys} : wBin .add (.tup xs) (.tup ys) S P = (xs.length + ys.length ≤ 1000000 ∧ P (.tup (xs ++ ys)) S) := rfl
theorem wLen_scr {ns} : wLen (.scr ns) S P = P (.int ns.length) S := rfl
theorem wLen_loc {k} : wLen (.loc k) S P = ∃ o, S[k]? = some o ∧ lenO o S P := rfl
theorem wLen_str {x} : wLen (.str x) S P = (x.length ≤ sizeLine ∧ P (.int x.length) S) := rfl
theorem wSub_scr {ns i} : wSub (.scr ns) (.int i) S P = ∃ n, L2.atI ns i = some n ∧ P (.int n) S := rfl
theorem wSub_loc {k y} : wSub (.loc k) y S P = ∃ o, S[k]? = some o ∧ subO o y S P := rfl
theorem wSub_str {z i} : wSub (.str z) (.int i) S P = ∃ c, z.length ≤ sizeLine ∧ L2.atI z.cps.toList i = some c ∧ P (.str ⟨#[c]⟩) S := rfl
theorem aug_add {n m : Int} : augI .add n m = some (n + m) := rfl
theorem aug_sub {n m : Int} : augI .sub n m = some (n - m) := rfl
theorem tru_lst {xs} : tru S (.lst xs) = some (!xs.isEmpty) := rfl
theorem tru_tup {xs} : tru S (.tup xs) = some (!xs.isEmpty) := rfl
theorem tru_non : tru S .non = some false := rfl
theorem tru_loc {k xs} (h : S[k]? = some (.lst xs)) : tru S (.loc k) = some (!xs.isEmpty) := by simp only [tru, h]
theorem ty_loc {k xs t} (h : S[k]? = some (.lst xs)) : tyIs S (.loc k) t = some (t == .list) := by simp only [tyIs, h]
theorem ty_scr_list {ns} : tyIs S (.scr ns) .list = some true := rfl
end
/-! ### places in the store -/
section
variable {S l : Sto} {i : Nat} {o : Ob}
theorem sg_p0 : (S ++ l)[S.length]? = l[0]? := by
  rw [List.getElem?_append_right (Nat.le_refl _), Nat.sub_self]
theorem sg_pl : (S ++ l)[S.length + i]? = l[i]? := by
  rw [List.getElem?_append_right (Nat.le_add_right _ _), Nat.add_sub_cancel_left]
theorem ss_p0 : (S ++ l).set S.length o = S ++ l.set 0 o := by
  rw [List.set_append_right _ _ (Nat.le_refl _), Nat.sub_self]
theorem ss_pl : (S ++ l).set (S.length + i) o = S ++ l.set i o := by
  rw [List.set_append_right _ _ (Nat.le_add_right _ _), Nat.add_sub_cancel_left]
end
theorem ob_set0 {o u : Ob} {r : Sto} : List.set (o :: r) 0 u = u :: r := rfl
theorem ob_setS {o u : Ob} {r : Sto} {i : Nat} : List.set (o :: r) (i + 1) u = o :: List.set r i u := rfl
theorem ob_set1 {o o1 u : Ob} {r : Sto} : List.set (o :: o1 :: r) 1 u = o :: u :: r := rfl
theorem ob_set2 {o o1 o2 u : Ob} {r : Sto} : List.set (o :: o1 :: o2 :: r) 2 u = o :: o1 :: u :: r := rfl
theorem ob_set3 {o o1 o2 o3 u : Ob} {r : Sto} : List.set (o :: o1 :: o2 :: o3 :: r) 3 u = o :: o1 :: o2 :: u :: r := rfl
theorem ob_g0 {o : Ob} {r : Sto} : (o :: r)[0]? = some o := rfl
theorem ob_g1 {o o1 : Ob} {r : Sto} : (o :: o1 :: r)[1]? = some o1 := rfl
theorem ob_g2 {o o1 o2 : Ob} {r : Sto} : (o :: o1 :: o2 :: r)[2]? = some o2 := rfl
theorem ob_g3 {o o1 o2 o3 : Ob} {r : Sto} : (o :: o1 :: o2 :: o3 :: r)[3]? = some o3 := rfl
/-! ### small places -/
theorem at_0 {x0 : Va} {xs : List Va} : L2.atI (x0 :: xs) 0 = some x0 := L2.atI_nat (j := 0) rfl
theorem at_1 {x0 x1 : Va} {xs : List Va} : L2.atI (x0 :: x1 :: xs) 1 = some x1 := L2.atI_nat (j := 1) rfl
theorem at_2 {x0 x1 x2 : Va} {xs : List Va} : L2.atI (x0 :: x1 :: x2 :: xs) 2 = some x2 := L2.atI_nat (j := 2) rfl
theorem at_3 {x0 x1 x2 x3 : Va} {xs : List Va} : L2.atI (x0 :: x1 :: x2 :: x3 :: xs) 3 = some x3 := L2.atI_nat (j := 3) rfl
theorem at_4 {x0 x1 x2 x3 x4 : Va} {xs : List Va} : L2.atI (x0 :: x1 :: x2 :: x3 :: x4 :: xs) 4 = some x4 := L2.atI_nat (j := 4) rfl
theorem at_5 {x0 x1 x2 x3 x4 x5 : Va} {xs : List Va} : L2.atI (x0 :: x1 :: x2 :: x3 :: x4 :: x5 :: xs) 5 = some x5 := L2.atI_nat (j := 5) rfl
theorem ix_1_0 : L2.ixN 1 0 = some 0 := rfl
theorem ix_2_0 : L2.ixN 2 0 = some 0 := rfl
theorem ix_2_1 : L2.ixN 2 1 = some 1 := rfl
theorem ix_3_0 : L2.ixN 3 0 = some 0 := rfl
theorem ix_3_1 : L2.ixN 3 1 = some 1 := rfl
theorem ix_3_2 : L2.ixN 3 2 = some 2 := rfl
theorem ix_4_0 : L2.ixN 4 0 = some 0 := rfl
theorem ix_4_1 : L2.ixN 4 1 = some 1 := rfl
theorem ix_4_2 : L2.ixN 4 2 = some 2 := rfl
theorem ix_4_3 : L2.ixN 4 3 = some 3 := rfl
theorem va_s0 {x v : Va} {r : List Va} : List.set (x :: r) 0 v = v :: r := rfl
theorem va_s1 {x x1 v : Va} {r : List Va} : List.set (x :: x1 :: r) 1 v = x :: v :: r := rfl
theorem va_s2 {x x1 x2 v : Va} {r : List Va} : List.set (x :: x1 :: x2 :: r) 2 v = x :: x1 :: v :: r := rfl
theorem va_s3 {x x1 x2 x3 v : Va} {r : List Va} : List.set (x :: x1 :: x2 :: x3 :: r) 3 v = x :: x1 :: x2 :: v :: r := rfl
/-! ### without places -/
mutual
def pl : Va → Bool
  | .tup xs => pls xs
  | .lst xs => pls xs
  | .dct xs => plk xs
  | .loc _ => false
  | .non => true
  | .bl _ => true
  | .int _ => true
  | .str _ => true
  | .scr _ => true
  | .exc _ => false
  | .fnv _ _ => false
def pls : List Va → Bool
  | [] => true
  | x :: xs => pl x && pls xs
def plk : List (Key × Va) → Bool
  | [] => true
  | (_, x) :: xs => pl x && plk xs
end
section
variable {S : Sto} {n : Nat}
mutual
theorem fz_pl : ∀ {v : Va}, pl v = true → Fz S n v v
  | .tup xs, h => ⟨xs, rfl, fzs_pl h⟩
  | .lst xs, h => ⟨xs, .inl rfl, fzs_pl h⟩
  | .dct xs, h => ⟨xs, .inl rfl, fzk_pl h⟩
  | .loc _, h => by cases h
  | .non, _ => rfl
  | .bl _, _ => rfl
  | .int _, _ => rfl
  | .str _, _ => rfl
  | .scr _, _ => rfl
  | .exc _, h => by cases h
  | .fnv _ _, h => by cases h
theorem fzs_pl : ∀ {v : List Va}, pls v = true → Fzs S n v v
  | [], _ => rfl
  | x :: xs, h => by
    obtain ⟨h1, h2⟩ := Bool.and_eq_true_iff.mp h
    exact ⟨x, xs, rfl, fz_pl h1, fzs_pl h2⟩
theorem fzk_pl : ∀ {v : List (Key × Va)}, plk v = true → Fzk S n v v
  | [], _ => rfl
  | (k, x) :: xs, h => by
    obtain ⟨h1, h2⟩ := Bool.and_eq_true_iff.mp h
    exact ⟨x, xs, rfl, fz_pl h1, fzk_pl h2⟩
end
end
theorem pls_iff : ∀ {xs : List Va}, pls xs = true ↔ ∀ x ∈ xs, pl x = true
  | [] => by simp [pls]
  | x :: xs => by simp [pls, pls_iff (xs := xs)]
/-- a value without places, the store as at the start -/
theorem fin_val {S : Sto} {N : Sto} {P : PV} {v : Va} (hv : pl v = true) (h : P v S) : fin S P v (S ++ N) := fin_pure (fz_pl hv) h
/-- a list made here -/
theorem fin_lst {S : Sto} {N : Sto} {P : PV} {i : Nat} {xs : List Va} (hg : N[i]? = some (.lst xs)) (hv : pls xs = true) (h : P (.lst xs) S) : fin S P (.loc (S.length + i)) (S ++ N) :=
  fin_pure (v' := .lst xs) ⟨xs, .inr ⟨_, rfl, Nat.le_add_right _ _, by rw [sg_pl]; exact hg⟩, fzs_pl hv⟩ h
theorem fin_lst0 {S : Sto} {N : Sto} {P : PV} {xs : List Va} (hg : N[0]? = some (.lst xs)) (hv : pls xs = true) (h : P (.lst xs) S) : fin S P (.loc S.length) (S ++ N) :=
  fin_lst (i := 0) hg hv h
theorem finX_cut {S : Sto} {N : Sto} {E : PX} {x : Str} (h : E x S) : finX S E x (S ++ N) :=
  ⟨S, .inr ⟨by simp, by simp, fun i o hi e => .inl (by rw [List.getElem?_append_left hi] at e; exact e)⟩, h⟩
/-! ### dicts, objects -/
section
variable {C : Orc} {Γ : Env} {S : Sto} {P : PV} {E : PX} {D : AEnds} {T : Tab} {k : Nat}
theorem orc_run : (orc T k).run = call T k := rfl
theorem orc_glob : (orc T k).glob = T.glob := rfl
theorem orc_isa : (orc T k).isa = T.isa := rfl
theorem orc_gdct : (orc T k).gdct = T.gdct := rfl
theorem orc_xk : (orc T k).xk = T.xkf := rfl
theorem W_isE {a x} : W C (.isE a x) Γ S P E = W C a Γ S (fun v S1 => ∃ ad, v = .exc ad ∧ ∃ c, C.cur = some (ad, c) ∧ ∃ b, C.xk c x = some b ∧ P (.bl b) S1) E := rfl
theorem W_isEt {a xs} : W C (.isEt a xs) Γ S P E = W C a Γ S (fun v S1 => ∃ ad, v = .exc ad ∧ ∃ c, C.cur = some (ad, c) ∧ ∃ b, xkAny C c xs = some b ∧ P (.bl b) S1) E := rfl
theorem WS_try {b x o su} : WS C (.try_ b x o su) D Γ S = WSs C b { D with ex := fun c Γ' S' => ∃ kk, C.xk c x = some kk ∧ if kk = true then ∀ a, WSs { C with cur := some (a, c) } su (offD o D) (onE o a Γ') S' else D.ex c Γ' S' } Γ S := rfl
theorem W_isc {a x} : W C (.isc a x) Γ S P E = W C a Γ S (fun v S1 => ∃ k, v = .loc k ∧ ∃ ob, S1[k]? = some ob ∧ ∃ b, clsIs C x ob = some b ∧ P (.bl b) S1) E := rfl
theorem b_intB {b} : wBlt .int [.bl b] S P = P (.int (if b = true then 1 else 0)) S := rfl
theorem orc_init : (orc T k).init = T.init := rfl
theorem W_gget {x k d} : W C (.gget x k d) Γ S P E = (∃ l, C.gdct x = some l ∧ W C k Γ S (fun y S1 => W C d Γ S1 (fun z S2 => ∃ s, y = .str s ∧ ∃ o, l.lookup s = some o ∧ P (o.getD z) S2) E) E) := rfl
theorem W_get2 {o k d} : W C (.get2 o k d) Γ S P E = W C o Γ S (fun x S1 => isD S1 x ∧ W C k Γ S1 (fun y S2 => W C d Γ S2 (fun z S3 => ∃ kvs, LD S3 x kvs ∧ ∃ kk, keyV y = some kk ∧ P ((dget kvs kk).getD z) S3) E) E) E := rfl
theorem W_glob {x} : W C (.glob x) Γ S P E = ∃ v, C.glob x = some v ∧ P v S := rfl
theorem W_fld {o f} : W C (.fld o f) Γ S P E = W C o Γ S (fun x S1 => ∃ k, x = .loc k ∧ ∃ ob, S1[k]? = some ob ∧ ∃ v, fldO C f ob = some v ∧ P v S1) E := rfl
theorem W_mcall {o m es} : W C (.mcall o m es) Γ S P E = W C o Γ S (fun x S1 => ∃ k, x = .loc k ∧ ∃ ob, S1[k]? = some ob ∧ ∃ key, mkey C m ob = some key ∧ WL C es Γ S1 (fun vs S2 => C.run key (x :: vs) S2 P E) E) E := rfl
theorem W_make {c es} : W C (.make c es) Γ S P E = ∃ key, C.init c = some (some key) ∧ WL C es Γ S (fun vs S1 => C.run key (.loc S1.length :: vs) (S1 ++ [.ins c []]) (fun v S2 => v = .non ∧ P (.loc S1.length) S2) E) E := rfl
theorem W_make0 {c} : W C (.make0 c) Γ S P E = (C.init c = some none ∧ P (.loc S.length) (S ++ [.ins c []])) := rfl
theorem W_dsp {es} : W C (.dsp es) Γ S P E = WL C es Γ (S ++ [.dct []]) (fun vs S1 => ∃ kvs, pairsV vs = some kvs ∧ kvs.length ≤ 15 ∧ S1[S.length]? = some (.dct []) ∧ P (.loc S.length) (S1.set S.length (.dct (mergeA [] kvs)))) E := rfl
theorem Ss_setFld {o f e ss} : WSs C (.cons (.setFld o f e) ss) D Γ S = W C e Γ S (fun v S1 => W C o Γ S1 (fun x S2 => ∃ k, x = .loc k ∧ ∃ ob, S2[k]? = some ob ∧ ∃ ob', putFO C f v ob = some ob' ∧ WSs C ss D Γ (S2.set k ob')) (fun x S1 => D.ex x Γ S1)) (fun x S1 => D.ex x Γ S1) := rfl
theorem subO_l {xs i} : subO (.lst xs) (.int i) S P = ∃ v, L2.atI xs i = some v ∧ P v S := rfl
theorem subO_d {kvs y} : subO (.dct kvs) y S P = ∃ kk, keyV y = some kk ∧ ∃ v, dget kvs kk = some v ∧ P v S := by cases y <;> rfl
theorem lenO_l {xs} : lenO (.lst xs) S P = P (.int xs.length) S := rfl
theorem lenO_d {xs} : lenO (.dct xs) S P = P (.int xs.length) S := rfl
theorem listO_l {xs} : listO (.lst xs) S P = P (.loc S.length) (S ++ [.lst xs]) := rfl
theorem listO_d {kvs} : listO (.dct kvs) S P = P (.loc S.length) (S ++ [.lst (kvs.map fun kv => keyA kv.1)]) := rfl
theorem putO_l {xs : List Va} {j : Int} {v : Va} : putO (.lst xs) (.int j) v = (L2.ixN xs.length j).map fun n => .lst (xs.set n v) := rfl
theorem putO_d {kvs : List (Key × Va)} {y v : Va} {kk : Key} (h : keyV y = some kk) (hl : kvs.length < 1000000) : putO (.dct kvs) y v = some (.dct (dput kvs kk v)) := by
  have e : putO (.dct kvs) y v = match keyV y with
    | some kk => if kvs.length < 1000000 then some (.dct (dput kvs kk v)) else none
    | none => none := by cases y <;> rfl
  rw [e, h]
  simp only [if_pos hl]
theorem wIn_str {x y : Str} : wCmp .isin (.str x) (.str y) S P = (x.length = 1 ∧ P (.bl (decide (x.cps.getD 0 0 ∈ y.cps.toList))) S) := rfl
theorem wIsb {a b : Bool} : wCmp .isb (.bl a) (.bl b) S P = P (.bl (decide (a = b))) S := rfl
theorem wNisb {a b : Bool} : wCmp .nisb (.bl a) (.bl b) S P = P (.bl (!decide (a = b))) S := rfl
theorem wNotin_str {x y : Str} : wCmp .notin (.str x) (.str y) S P = (x.length = 1 ∧ P (.bl (!decide (x.cps.getD 0 0 ∈ y.cps.toList))) S) := rfl
theorem fin_dct0 {S : Sto} {N : Sto} {P : PV} {kvs : List (Key × Va)} (hg : N[0]? = some (.dct kvs)) (hv : plk kvs = true) (h : P (.dct kvs) S) : fin S P (.loc S.length) (S ++ N) :=
  fin_pure (v' := .dct kvs) ⟨kvs, .inr ⟨_, rfl, Nat.le_refl _, by rw [sg_p0]; exact hg⟩, fzk_pl hv⟩ h
theorem keyV_int {i : Int} : keyV (.int i) = some (.inl i) := rfl
theorem keyV_str {x : Str} : keyV (.str x) = some (.inr x) := rfl
theorem mapSome {α γ : Type} {f : α → γ} {a : α} : (some a).map f = some (f a) := rfl
end
/-! ### walks by a word -/
section
variable {C : Orc}
theorem frL_ix {bind : Va → Env → Sto → Option Env} {b : PE_ → Env → Sto → Prop} {G : Sto → Prop} {nx : PE_} (hb : ∀ Γ S (N N' : PE_), (∀ Γ S, N Γ S → N' Γ S) → b N Γ S → b N' Γ S) {xs : List Va} (I : Nat → Env → Sto → Prop)
    (hs : ∀ i x Γ S, xs[i]? = some x → I i Γ S → ∃ Γ1, bind x Γ S = some Γ1 ∧ b (fun Γ' S' => G S' ∧ I (i + 1) Γ' S') Γ1 S) (hd : ∀ Γ S, I xs.length Γ S → nx Γ S) : ∀ {Γ S}, I 0 Γ S → frL bind b G nx xs Γ S := by
  have key : ∀ (m i : Nat) (Γ : Env) (S : Sto), i + m = xs.length → I i Γ S → frL bind b G nx (xs.drop i) Γ S := by
    intro m
    induction m with
    | zero =>
      intro i Γ S hi h
      rw [List.drop_eq_nil_of_le (by omega)]
      have e : i = xs.length := by omega
      subst e
      exact hd Γ S h
    | succ m ih =>
      intro i Γ S hi h
      have hlt : i < xs.length := by omega
      rw [List.drop_eq_getElem_cons hlt]
      obtain ⟨Γ1, h1, h2⟩ := hs i xs[i] Γ S (by simp [hlt]) h
      exact ⟨Γ1, h1, hb _ _ _ _ (fun Γ' S' ⟨g, z⟩ => ⟨g, ih (i + 1) Γ' S' (by omega) z⟩) h2⟩
  intro Γ S h
  exact key xs.length 0 Γ S (by omega) h
/-- a for by a word of the turn's number -/
theorem for_ix (hC : OrcMono C) {tg : Tg} {b : Sms} {D : AEnds} {G : Sto → Prop} {xs : List Va} {Γ : Env} {S : Sto} (I : Nat → Env → Sto → Prop) (h0 : I 0 Γ S)
    (hs : ∀ i x Γ S, xs[i]? = some x → I i Γ S → ∃ Γ1, bindT S tg x Γ = some Γ1 ∧ WSs C b { D with nx := fun Γ' S' => G S' ∧ I (i + 1) Γ' S', ct := fun Γ' S' => G S' ∧ I (i + 1) Γ' S', bk := D.nx } Γ1 S) (hd : ∀ Γ S, I xs.length Γ S → D.nx Γ S) :
    forB C tg b D G xs Γ S :=
  frL_ix (nx := D.nx) (fun Γ S N N' hN q => WSs_mono hC b { D with nx := N, ct := N, bk := D.nx } { D with nx := N', ct := N', bk := D.nx } Γ S ⟨hN, fun _ _ z => z, fun _ _ z => z, hN, fun _ _ _ z => z⟩ q) I hs hd h0
/-- a comprehension whose parts leave the store as it is -/
theorem cpL_map (hC : OrcMono C) {own : List Nat} {elt : Ex} {tg : Tg} {cond : Tes0} {G : Sto → Prop} {Γ : Env} {S1 : Sto} {P : PV} {xs : List Va} (f : Va → Option Va) (hn : xs.length ≤ 1000000) (hG : ∀ acc, G (S1 ++ [.lst acc]))
    (h : ∀ x ∈ xs, ∀ acc, ∃ Γ1, bindT (S1 ++ [.lst acc]) tg x (wipeA Γ own) = some Γ1 ∧ WT0 C cond Γ1 (S1 ++ [.lst acc]) fun b S2 => S2 = S1 ++ [.lst acc] ∧ match f x with
      | some v => b = true ∧ W C elt Γ1 (S1 ++ [.lst acc]) (fun v' S3 => v' = v ∧ S3 = S1 ++ [.lst acc]) (fun _ _ => False)
      | none => b = false) (hP : P (.loc S1.length) (S1 ++ [.lst (xs.filterMap f)])) :
    cpB C own elt tg cond G S1.length P xs Γ (S1 ++ [.lst []]) := by
  have key : ∀ (ys : List Va) (acc : List Va), (∀ x ∈ ys, x ∈ xs) → acc.length + ys.length ≤ 1000000 → P (.loc S1.length) (S1 ++ [.lst (acc ++ ys.filterMap f)]) →
      cpL (fun x S => bindT S tg x (wipeA Γ own)) (fun Γ S Q => WT0 C cond Γ S Q) (fun Γ S Q => W C elt Γ S Q (fun _ _ => False)) G S1.length P ys (S1 ++ [.lst acc]) := by
    intro ys
    induction ys with
    | nil =>
      intro acc _ _ hp
      rw [List.filterMap_nil, List.append_nil] at hp
      exact hp
    | cons y ys ih =>
      intro acc hin hl hp
      rw [List.length_cons] at hl
      obtain ⟨Γ1, h1, h2⟩ := h y (hin y List.mem_cons_self) acc
      refine ⟨Γ1, h1, WT0_mono hC cond _ _ _ _ (fun b S2 q => ?_) h2⟩
      obtain ⟨e, q⟩ := q
      rw [e]
      cases hf : f y with
      | some v =>
        rw [hf] at q
        obtain ⟨hb, q⟩ := q
        rw [hb, if_pos rfl]
        refine W_mono hC elt _ _ _ _ _ _ (fun v' S3 ⟨e1, e2⟩ => ?_) (fun _ _ z => z) q
        rw [e1, e2]
        have e3 : (S1 ++ [Ob.lst acc]).set S1.length (.lst (acc ++ [v])) = S1 ++ [.lst (acc ++ [v])] := by rw [ss_p0]; rfl
        refine ⟨acc, by rw [sg_p0]; rfl, by omega, by rw [e3]; exact hG _, ?_⟩
        rw [e3]
        refine ih _ (fun x hx => hin x (List.mem_cons_of_mem _ hx)) (by simp; omega) ?_
        rw [List.filterMap_cons_some hf] at hp
        simpa using hp
      | none =>
        rw [hf] at q
        rw [q, if_neg (by decide)]
        refine ⟨hG _, ih _ (fun x hx => hin x (List.mem_cons_of_mem _ hx)) (by omega) ?_⟩
        rw [List.filterMap_cons_none hf] at hp
        exact hp
  exact key xs [] (fun _ z => z) (by simpa using hn) (by simpa using hP)
end
theorem rangeV_get {lo : Int} {n i : Nat} {x : Va} (h : (rangeV lo n)[i]? = some x) : i < n ∧ x = .int (lo + i) := by
  have hi : i < n := by
    have := L2.atI_nat (j := i) h
    have := lt_of_get h
    simpa [rangeV] using this
  unfold rangeV at h
  rw [List.getElem?_map, List.getElem?_range hi] at h
  exact ⟨hi, by cases h; rfl⟩
theorem rangeDV_get {lo : Int} {n i : Nat} {x : Va} (h : (rangeDV lo n)[i]? = some x) : i < n ∧ x = .int (lo - i) := by
  have hi : i < n := by
    have := lt_of_get h
    simpa [rangeDV] using this
  unfold rangeDV at h
  rw [List.getElem?_map, List.getElem?_range hi] at h
  exact ⟨hi, (Option.some.inj h).symm⟩
theorem rangeDV_len {lo : Int} {n : Nat} : (rangeDV lo n).length = n := by simp [rangeDV]
theorem rangeV_len {lo : Int} {n : Nat} : (rangeV lo n).length = n := by simp [rangeV]
theorem unlk {S : Sto} {k : Nat} {o u : Ob} (h : S[k]? = some o) : (S.set k u).set k o = S := by
  rw [List.set_set]
  apply List.ext_getElem?
  intro i
  by_cases e : k = i
  · subst e; rw [List.getElem?_set_self (lt_of_get h), h]
  · rw [List.getElem?_set_ne e]
/-- a dict walked, locked meanwhile -/
theorem for_keys {C : Orc} {tg : Tg} {b : Sms} {D : AEnds} {Γ : Env} {S : Sto} {i k : Nat} {kvs : List (Key × Va)} (hv : gt Γ i = some (.loc k)) (hk : S[k]? = some (.dct kvs)) (h : forB C tg b (lckD k kvs D) (fun _ => True) (kvs.map fun kv => keyA kv.1) Γ (S.set k (.lok kvs))) :
    WS C (.lck (.for_ tg (.keys (.var i)) b)) D Γ S := ⟨k, kvs, hk, _, hv, k, rfl, kvs, List.getElem?_set_self (lt_of_get hk), trivial, h⟩
theorem setC_keys {C : Orc} {own : List Nat} {elt : Ex} {tg : Tg} {cond : Tes0} {D : AEnds} {Γ : Env} {S : Sto} {i j k : Nat} {kvs : List (Key × Va)} (hv : gt Γ i = some (.loc k)) (hk : S[k]? = some (.dct kvs)) (h : cpB C own elt tg cond (fun _ => True) (S.set k (.lok kvs)).length (fun v S2 => (lckD k kvs D).nx (Γ.set j (some v)) S2) (kvs.map fun kv => keyA kv.1) Γ (S.set k (.lok kvs) ++ [.lst []])) :
    WS C (.lck (.setC j own elt tg (.keys (.var i)) cond)) D Γ S := ⟨k, kvs, hk, _, hv, k, rfl, kvs, List.getElem?_set_self (lt_of_get hk), trivial, h⟩
theorem comp_keys {C : Orc} {own : List Nat} {elt : Ex} {tg : Tg} {cond : Tes0} {P : PV} {E : PX} {Γ : Env} {S : Sto} {i k : Nat} {kvs : List (Key × Va)} (hv : gt Γ i = some (.loc k)) (hk : S[k]? = some (.dct kvs)) (h : cpB C own elt tg cond (fun _ => True) (S.set k (.lok kvs)).length (fun v S2 => S2[k]? = some (.lok kvs) ∧ P v (S2.set k (.dct kvs))) (kvs.map fun kv => keyA kv.1) Γ (S.set k (.lok kvs) ++ [.lst []])) :
    W C (.lck (.comp own elt tg (.keys (.var i)) cond)) Γ S P E := ⟨k, kvs, hk, _, hv, k, rfl, kvs, List.getElem?_set_self (lt_of_get hk), trivial, h⟩
theorem for_items {C : Orc} {tg : Tg} {b : Sms} {D : AEnds} {Γ : Env} {S : Sto} {i k : Nat} {kvs : List (Key × Va)} (hv : gt Γ i = some (.loc k)) (hk : S[k]? = some (.dct kvs)) (h : forB C tg b (lckD k kvs D) (fun _ => True) (kvs.map fun kv => .tup [keyA kv.1, kv.2]) Γ (S.set k (.lok kvs))) :
    WS C (.lck (.for_ tg (.items (.var i)) b)) D Γ S := ⟨k, kvs, hk, _, hv, k, rfl, kvs, List.getElem?_set_self (lt_of_get hk), trivial, h⟩
end AM
end

section
set_option linter.all false
set_option maxRecDepth 100000
set_option maxHeartbeats 4000000
/-! AM, tenth part: data held against data; lists wherever they stand. -/
namespace AM
open PySem L2
mutual
/-- plain data -/
def dat : Va → Bool
  | .non => true
  | .bl _ => true
  | .int _ => true
  | .str x => PyData.strOk x
  | .tup xs => dats xs
  | .lst xs => dats xs
  | .dct _ => false
  | .loc _ => false
  | .scr _ => false
  | .exc _ => false
  | .fnv _ _ => false
def dats : List Va → Bool
  | [] => true
  | x :: xs => dat x && dats xs
end
mutual
def pd : Va → PyData
  | .non => .none
  | .bl b => .bool b
  | .int i => .int i
  | .str x => .str x
  | .tup xs => .tuple (pds xs)
  | .lst xs => .list (pds xs)
  | .dct _ => .none
  | .loc _ => .none
  | .scr _ => .none
  | .exc _ => .none
  | .fnv _ _ => .none
def pds : List Va → List PyData
  | [] => []
  | x :: xs => pd x :: pds xs
end
mutual
def dep : Va → Nat
  | .tup xs => deps xs + 1
  | .lst xs => deps xs + 1
  | .non => 0
  | .bl _ => 0
  | .int _ => 0
  | .str _ => 0
  | .dct _ => 0
  | .loc _ => 0
  | .scr _ => 0
  | .exc _ => 0
  | .fnv _ _ => 0
def deps : List Va → Nat
  | [] => 0
  | x :: xs => max (dep x) (deps xs)
end
section
variable {S : Sto}
mutual
theorem dv_pd : ∀ {v : Va}, dat v = true → DV S v (pd v)
  | .non, _ => .non
  | .bl b, _ => .bl b
  | .int i, _ => .int i
  | .str x, _ => .str x
  | .tup xs, h => .tup (dvs_pd h)
  | .lst xs, h => .lst (dvs_pd h)
  | .dct _, h => by cases h
  | .loc _, h => by cases h
  | .scr _, h => by cases h
  | .exc _, h => by cases h
  | .fnv _ _, h => by cases h
theorem dvs_pd : ∀ {v : List Va}, dats v = true → DVs S v (pds v)
  | [], _ => .nil
  | x :: xs, h => .cons (dv_pd (Bool.and_eq_true_iff.mp h).1) (dvs_pd (Bool.and_eq_true_iff.mp h).2)
end
end
mutual
theorem pd_lay : ∀ {v : Va}, dat v = true → PyData.canLay0 (pd v) = true ∧ (pd v).depth = dep v
  | .non, _ => by simp [pd, dep, PyData.canLay0, PyData.depth]
  | .bl b, _ => by simp [pd, dep, PyData.canLay0, PyData.depth]
  | .int i, _ => by simp [pd, dep, PyData.canLay0, PyData.depth]
  | .str x, h => by simp [pd, dep, PyData.canLay0, PyData.depth]; exact h
  | .tup xs, h => by
    obtain ⟨h1, h2⟩ := pds_lay (v := xs) h
    simp [pd, dep, PyData.canLay0, PyData.depth, h1, h2]
  | .lst xs, h => by
    obtain ⟨h1, h2⟩ := pds_lay (v := xs) h
    simp [pd, dep, PyData.canLay0, PyData.depth, h1, h2]
  | .dct _, h => by cases h
  | .loc _, h => by cases h
  | .scr _, h => by cases h
  | .exc _, h => by cases h
  | .fnv _ _, h => by cases h
theorem pds_lay : ∀ {v : List Va}, dats v = true → PyData.canLayAll0 (pds v) = true ∧ PyData.depthAll (pds v) = deps v
  | [], _ => by simp [pds, deps, PyData.canLayAll0, PyData.depthAll]
  | x :: xs, h => by
    obtain ⟨h1, h2⟩ := pd_lay (v := x) (Bool.and_eq_true_iff.mp h).1
    obtain ⟨h3, h4⟩ := pds_lay (v := xs) (Bool.and_eq_true_iff.mp h).2
    simp [pds, deps, PyData.canLayAll0, PyData.depthAll, h1, h2, h3, h4]
end
theorem pd_shaped {v : Va} (h : dat v = true) (h2 : dep v ≤ 64) : SeqAt.shaped (pd v) = true := by
  obtain ⟨h3, h4⟩ := pd_lay h
  unfold SeqAt.shaped
  rw [h3, h4, decide_eq_true h2]; rfl
mutual
theorem eqv_self : ∀ {v : Va}, dat v = true → PyData.eqv (pd v) (pd v) = true
  | .non, _ => by simp [pd, PyData.eqv]
  | .bl b, _ => by simp [pd, PyData.eqv]
  | .int i, _ => by simp [pd, PyData.eqv]
  | .str x, _ => by simp [pd, PyData.eqv]
  | .tup xs, h => by simp [pd, PyData.eqv, eqvs_self (v := xs) h]
  | .lst xs, h => by simp [pd, PyData.eqv, eqvs_self (v := xs) h]
  | .dct _, h => by cases h
  | .loc _, h => by cases h
  | .scr _, h => by cases h
  | .exc _, h => by cases h
  | .fnv _ _, h => by cases h
theorem eqvs_self : ∀ {v : List Va}, dats v = true → PyData.eqvAll (pds v) (pds v) = true
  | [], _ => by simp [pds, PyData.eqvAll]
  | x :: xs, h => by
    simp [pds, PyData.eqvAll, eqv_self (v := x) (Bool.and_eq_true_iff.mp h).1, eqvs_self (v := xs) (Bool.and_eq_true_iff.mp h).2]
end
theorem dats_iff : ∀ {xs : List Va}, dats xs = true ↔ ∀ x ∈ xs, dat x = true
  | [] => by simp [dats]
  | x :: xs => by simp [dats, dats_iff (xs := xs)]
theorem deps_le {n : Nat} : ∀ {xs : List Va}, (∀ x ∈ xs, dep x ≤ n) → deps xs ≤ n
  | [], _ => Nat.zero_le _
  | x :: xs, h => Nat.max_le.mpr ⟨h x List.mem_cons_self, deps_le fun y hy => h y (List.mem_cons_of_mem _ hy)⟩
section
variable {S : Sto} {v y z : Va} {xs ys : List Va} {P : PV} {I : PI_}
theorem LV.dv (h : LV S v xs) (hd : dats xs = true) : DV S v (pd (.lst xs)) := by
  rcases h with rfl | ⟨k, rfl, hk⟩
  · exact dv_pd (v := .lst xs) hd
  · exact .loc hk (dvs_pd hd)
theorem eq_by {d : Va} (hx : DV S y (pd d)) (hy : DV S z (pd d)) (h1 : dat d = true) (h2 : dep d ≤ 64) (h : P (.bl true) S) : wCmp .eq y z S P := by
  simp only [wCmp]
  exact .inr ⟨_, _, hx, hy, pd_shaped h1 h2, pd_shaped h1 h2, by rw [eqv_self h1]; exact h⟩
theorem ne_by {d : Va} (hx : DV S y (pd d)) (hy : DV S z (pd d)) (h1 : dat d = true) (h2 : dep d ≤ 64) (h : P (.bl false) S) : wCmp .ne y z S P := by
  simp only [wCmp]
  exact .inr ⟨_, _, hx, hy, pd_shaped h1 h2, pd_shaped h1 h2, by rw [eqv_self h1]; exact h⟩
/-- a walk of a list that stands, through stores that keep what stood -/
theorem LV.seq (h : LV S v xs) (hI : ∀ G : Sto → Prop, (∀ S', (∀ (k : Nat) (o : Ob), S[k]? = some o → S'[k]? = some o) → G S') → I xs G S) : wSeq v S I := by
  rcases h with rfl | ⟨k, rfl, hk⟩
  · exact hI _ fun _ _ => trivial
  · exact ⟨xs, hk, hI _ fun S' h => h k _ hk⟩
theorem LV.wlst (h : LV S v xs) (hI : ∀ G : Sto → Prop, (∀ S', (∀ (k : Nat) (o : Ob), S[k]? = some o → S'[k]? = some o) → G S') → I xs G S) : wLst v S I := by
  rcases h with rfl | ⟨k, rfl, hk⟩
  · exact hI _ fun _ _ => trivial
  · exact ⟨xs, hk, hI _ fun S' h => h k _ hk⟩
theorem LV.wen (h : LV S v xs) (hI : ∀ G : Sto → Prop, (∀ S', (∀ (k : Nat) (o : Ob), S[k]? = some o → S'[k]? = some o) → G S') → I xs G S) : wEn v S I := by
  rcases h with rfl | ⟨k, rfl, hk⟩
  · exact hI _ fun _ _ => trivial
  · exact ⟨xs, hk, hI _ fun S' h => h k _ hk⟩
theorem LV.list (h : LV S v xs) (hp : P (.loc S.length) (S ++ [.lst xs])) : wBlt .list [v] S P := by
  rcases h with rfl | ⟨k, rfl, hk⟩
  · exact hp
  · exact ⟨.lst xs, hk, hp⟩
theorem LV.tuple (h : LV S v xs) (hp : P (.tup xs) S) : wBlt .tuple [v] S P := by
  rcases h with rfl | ⟨k, rfl, hk⟩
  · exact hp
  · exact ⟨xs, hk, hp⟩
theorem LV.len (h : LV S v xs) (hp : P (.int xs.length) S) : wLen v S P := by
  rcases h with rfl | ⟨k, rfl, hk⟩
  · exact hp
  · exact ⟨.lst xs, hk, hp⟩
theorem LV.cat (h : LV S v xs) (h' : LV S y ys) (hl : xs.length + ys.length ≤ 1000000) (hp : P (.loc S.length) (S ++ [.lst (xs ++ ys)])) : wBin .add v y S P := by
  rcases h with rfl | ⟨k, rfl, hk⟩
  · exact ⟨xs, .inl rfl, ys, h', hl, hp⟩
  · exact ⟨xs, .inr ⟨k, rfl, hk⟩, ys, h', hl, hp⟩
theorem LV.slice {lo hi : Option Int} (h : LV S v xs) (hp : P (.loc S.length) (S ++ [.lst (cutA xs lo hi)])) : wSlice v lo hi S P := by
  rcases h with rfl | ⟨k, rfl, hk⟩
  · exact hp
  · exact ⟨xs, hk, hp⟩
theorem LV.sub {i : Int} {u : Va} (h : LV S v xs) (hi : L2.atI xs i = some u) (hp : P u S) : wSub v (.int i) S P := by
  rcases h with rfl | ⟨k, rfl, hk⟩
  · exact ⟨u, hi, hp⟩
  · exact ⟨.lst xs, hk, u, hi, hp⟩
theorem LV.ty {t : Ty} (h : LV S v xs) : tyIs S v t = some (t == .list) := by
  rcases h with rfl | ⟨k, rfl, hk⟩
  · rfl
  · exact ty_loc hk
theorem LV.tru (h : LV S v xs) : AM.tru S v = some (!xs.isEmpty) := by
  rcases h with rfl | ⟨k, rfl, hk⟩
  · rfl
  · exact tru_loc hk
theorem LV.parts (h : LV S v xs) : partsOf S v = some xs := by
  rcases h with rfl | ⟨k, rfl, hk⟩
  · rfl
  · simp only [partsOf, hk]
theorem LV.bind {ts : Tgs} {Γ : Env} (h : LV S v xs) : bindT S (.tup ts) v Γ = bindTs S ts xs Γ := by
  simp only [bindT, h.parts]
/-- .. in a longer store -/
theorem LV.more (h : LV S v xs) (N : Sto) : LV (S ++ N) v xs := by
  rcases h with rfl | ⟨k, rfl, hk⟩
  · exact .inl rfl
  · exact .inr ⟨k, rfl, by rw [List.getElem?_append_left (lt_of_get hk)]; exact hk⟩
theorem LV.here {xs : List Va} {N : Sto} : LV (S ++ (.lst xs :: N)) (.loc S.length) xs := .inr ⟨_, rfl, by rw [sg_p0]; rfl⟩
theorem LV.at {i : Nat} {N : Sto} (h : N[i]? = some (.lst xs)) : LV (S ++ N) (.loc (S.length + i)) xs := .inr ⟨_, rfl, by rw [sg_pl]; exact h⟩
theorem kept_app {N : Sto} : ∀ (k : Nat) (o : Ob), S[k]? = some o → (S ++ N)[k]? = some o := fun k o h => by
  rw [List.getElem?_append_left (lt_of_get h)]; exact h
end
/-- a comprehension by a word of the turn and of what was gathered -/
theorem cpL_inv {C : Orc} (hC : OrcMono C) {own : List Nat} {elt : Ex} {tg : Tg} {cond : Tes0} {G : Sto → Prop} {Γ : Env} {S1 : Sto} {P : PV} {xs : List Va} (I : Nat → List Va → Prop) (hG : ∀ acc, G (S1 ++ [.lst acc])) (h0 : I 0 [])
    (h : ∀ i x acc, xs[i]? = some x → I i acc → ∃ Γ1, bindT (S1 ++ [.lst acc]) tg x (wipeA Γ own) = some Γ1 ∧ WT0 C cond Γ1 (S1 ++ [.lst acc]) fun b S2 => S2 = S1 ++ [.lst acc] ∧ if b = true then W C elt Γ1 (S1 ++ [.lst acc]) (fun v S3 => S3 = S1 ++ [.lst acc] ∧ acc.length < 1000000 ∧ I (i + 1) (acc ++ [v])) (fun _ _ => False) else I (i + 1) acc)
    (hP : ∀ acc, I xs.length acc → P (.loc S1.length) (S1 ++ [.lst acc])) : cpB C own elt tg cond G S1.length P xs Γ (S1 ++ [.lst []]) := by
  have key : ∀ (m i : Nat) (acc : List Va), i + m = xs.length → I i acc → cpL (fun x S => bindT S tg x (wipeA Γ own)) (fun Γ S Q => WT0 C cond Γ S Q) (fun Γ S Q => W C elt Γ S Q (fun _ _ => False)) G S1.length P (xs.drop i) (S1 ++ [.lst acc]) := by
    intro m
    induction m with
    | zero =>
      intro i acc hi hI
      have e : i = xs.length := by omega
      subst e
      rw [List.drop_length]
      exact hP acc hI
    | succ m ih =>
      intro i acc hi hI
      have hlt : i < xs.length := by omega
      rw [List.drop_eq_getElem_cons hlt]
      obtain ⟨Γ1, h1, h2⟩ := h i xs[i] acc (by simp [hlt]) hI
      refine ⟨Γ1, h1, WT0_mono hC cond _ _ _ _ (fun b S2 ⟨e, q⟩ => ?_) h2⟩
      rw [e]
      cases b with
      | true =>
        rw [if_pos rfl] at q ⊢
        refine W_mono hC elt _ _ _ _ _ _ (fun v S3 ⟨e2, q1, q2⟩ => ?_) (fun _ _ z => z) q
        rw [e2]
        have e3 : (S1 ++ [Ob.lst acc]).set S1.length (.lst (acc ++ [v])) = S1 ++ [.lst (acc ++ [v])] := by rw [ss_p0]; rfl
        exact ⟨acc, by rw [sg_p0]; rfl, q1, by rw [e3]; exact hG _, by rw [e3]; exact ih (i + 1) _ (by omega) q2⟩
      | false =>
        rw [if_neg (by decide)] at q ⊢
        exact ⟨hG _, ih (i + 1) acc (by omega) q⟩
  exact key xs.length 0 [] (by omega) h0
theorem lgl {j : Int} {n : Nat} (h : j.natAbs < 2 ^ n) : j.natAbs.log2 ≤ n := by
  by_cases z : j.natAbs = 0
  · rw [z]; exact Nat.zero_le _
  · exact Nat.le_of_lt ((Nat.log2_lt z).mpr h)
theorem bits_lg {i : Int} {n : Nat} (h : Builtin.Int.intBits i ≤ n) : i.natAbs.log2 ≤ n := by
  unfold Builtin.Int.intBits at h
  split at h
  · rename_i z
    have e : i = 0 := by simpa using z
    subst e
    exact Nat.zero_le _
  · omega
theorem ixn {n j : Nat} (hj : j < n) : L2.ixN n (j : Int) = some j := by
  have h2 : (j : Int) < (n : Int) := by omega
  unfold L2.ixN
  simp [h2]
end AM
end

section
set_option linter.all false
set_option maxRecDepth 100000
set_option maxHeartbeats 2000000
/-! Names, pools of names, traits told: what the laws draw. -/
open PySem
namespace AN
open AM
def f_l_cell : Fn := ⟨["_law_script", "_law_k"], ["_law_script", "_law_k"],
  (.cons (.ite (.val (.cmp .lt (.var 1) (.len (.var 0)))) (.cons (.ret (.sub (.var 0) (.var 1)))
  .nil) .nil)
  (.cons (.ret (.int 0))
  .nil))⟩
def f_l_mix : Fn := ⟨["_law_cell_here", "_law_way"], ["_law_cell_here", "_law_way", "_law_first"],
  (.cons (.set 2 (.bin .mod (.bin .add (.bin .mul (.var 0) (.int 48271)) (.bin .mul (.var 1) (.int 7919))) (.int 2147483647)))
  (.cons (.ret (.bin .mod (.bin .mul (.var 2) (.bin .add (.int 16807) (.bin .mul (.int 2) (.var 1)))) (.int 1000003)))
  .nil))⟩
def f_l_name : Fn := ⟨["_law_cell_here", "_law_way"], ["_law_cell_here", "_law_way", "_law_letters", "_law_size", "_law_k"],
  (.cons (.set 2 (.str "abcdefghijklmnopqrstuvwxyz"))
  (.cons (.set 3 (.bin .add (.int 1) (.bin .mod (.call "_law_mix" (.cons (.var 0) (.cons (.bin .add (.var 1) (.int 3)) .nil))) (.int 8))))
  (.cons (.ret (.mth .join (.str "") (.cons (.comp [4] (.sub (.var 2) (.bin .mod (.call "_law_mix" (.cons (.var 0) (.cons (.bin .add (.var 1) (.bin .mul (.int 5) (.var 4))) .nil))) (.int 26))) (.name 4) (.range1 (.var 3)) .none) .nil)))
  .nil)))⟩
def f_l_pool : Fn := ⟨["_law_script", "_law_at"], ["_law_script", "_law_at", "_law_letters", "_law_one", "_law_draw", "_law_place", "_law_sign", "_law_two", "_law_three"],
  (.cons (.set 2 (.str "abcdefghijklmnopqrstuvwxyz"))
  (.cons (.set 3 (.call "_law_name" (.cons (.call "_law_cell" (.cons (.var 0) (.cons (.var 1) .nil))) (.cons (.int 1) .nil))))
  (.cons (.set 4 (.call "_law_mix" (.cons (.call "_law_cell" (.cons (.var 0) (.cons (.bin .add (.var 1) (.int 1)) .nil))) (.cons (.int 2) .nil))))
  (.cons (.set 5 (.bin .mod (.var 4) (.len (.var 3))))
  (.cons (.set 6 (.sub (.var 2) (.bin .mod (.bin .fdiv (.var 4) (.int 8)) (.int 26))))
  (.cons (.set 7 (.bin .add (.bin .add (.slice (.var 3) .none (.some (.var 5))) (.var 6)) (.slice (.var 3) (.some (.bin .add (.var 5) (.int 1))) .none)))
  (.cons (.set 8 (.slice (.bin .add (.var 3) (.var 6)) (.some (.neg (.int 8))) .none))
  (.cons (.ret (.lst (.cons (.var 3) (.cons (.var 7) (.cons (.var 8) (.cons (.call "_law_name" (.cons (.call "_law_cell" (.cons (.var 0) (.cons (.bin .add (.var 1) (.int 1)) .nil))) (.cons (.int 4) .nil))) .nil))))))
  .nil))))))))⟩
def f_l_plain : Fn := ⟨["_law_cell_here", "_law_way", "_law_pool_here"], ["_law_cell_here", "_law_way", "_law_pool_here", "_law_draw", "_law_kind", "_law_first", "_law_every"],
  (.cons (.set 3 (.call "_law_mix" (.cons (.var 0) (.cons (.var 1) .nil))))
  (.cons (.set 4 (.bin .mod (.var 3) (.int 6)))
  (.cons (.ite (.or (.cons (.val (.cmp .eq (.var 4) (.int 0))) (.one (.val (.cmp .eq (.var 4) (.int 5)))))) (.cons (.ret (.tup (.cons (.str "any") .nil)))
  .nil) .nil)
  (.cons (.ite (.val (.cmp .eq (.var 4) (.int 1))) (.cons (.ret (.tup (.cons (.str "name") (.cons (.sub (.var 2) (.bin .mod (.bin .fdiv (.var 3) (.int 6)) (.int 4))) .nil))))
  .nil) .nil)
  (.cons (.ite (.val (.cmp .eq (.var 4) (.int 2))) (.cons (.ret (.tup (.cons (.str "mark") (.cons (.sub (.var 2) (.bin .mod (.bin .fdiv (.var 3) (.int 6)) (.int 4))) .nil))))
  .nil) .nil)
  (.cons (.set 5 (.bin .mod (.bin .fdiv (.var 3) (.int 6)) (.int 6)))
  (.cons (.set 6 (.bin .mod (.bin .fdiv (.var 3) (.int 36)) (.int 4)))
  (.cons (.ite (.val (.cmp .eq (.bin .mod (.bin .fdiv (.var 3) (.int 144)) (.int 8)) (.int 5))) (.cons (.set 5 (.bin .mod (.var 0) (.bin .pow (.int 10) (.int 30))))
  (.cons (.set 6 (.bin .fdiv (.var 3) (.int 1152)))
  .nil)) .nil)
  (.cons (.ite (.val (.cmp .eq (.bin .mod (.bin .fdiv (.var 3) (.int 144)) (.int 8)) (.int 6))) (.cons (.set 6 (.bin .mod (.var 0) (.bin .pow (.int 10) (.int 30))))
  .nil) .nil)
  (.cons (.ret (.tup (.cons (.sub (.lst (.cons (.str "front") (.cons (.str "back") .nil))) (.bin .mod (.var 4) (.int 2))) (.cons (.var 5) (.cons (.var 6) .nil)))))
  .nil))))))))))⟩
def f_l_trait : Fn := ⟨["_law_cell_here", "_law_way", "_law_pool_here", "_law_deep"], ["_law_cell_here", "_law_way", "_law_pool_here", "_law_deep", "_law_draw", "_law_k"],
  (.cons (.set 4 (.call "_law_mix" (.cons (.var 0) (.cons (.bin .add (.var 1) (.int 13)) .nil))))
  (.cons (.ite (.or (.cons (.val (.cmp .eq (.var 3) (.int 0))) (.one (.val (.cmp .lt (.bin .mod (.var 4) (.int 4)) (.int 2)))))) (.cons (.ret (.call "_law_plain" (.cons (.var 0) (.cons (.var 1) (.cons (.var 2) .nil)))))
  .nil) .nil)
  (.cons (.ite (.val (.cmp .eq (.bin .mod (.var 4) (.int 4)) (.int 2))) (.cons (.ret (.tup (.cons (.str "not") (.cons (.call "_law_trait" (.cons (.var 0) (.cons (.bin .add (.var 1) (.int 7)) (.cons (.var 2) (.cons (.bin .sub (.var 3) (.int 1)) .nil))))) .nil))))
  .nil) .nil)
  (.cons (.ret (.tup (.cons (.str "one") (.cons (.blt .tuple (.cons (.comp [5] (.call "_law_trait" (.cons (.var 0) (.cons (.bin .add (.bin .add (.var 1) (.bin .mul (.int 19) (.var 5))) (.int 23)) (.cons (.var 2) (.cons (.bin .sub (.var 3) (.int 1)) .nil))))) (.name 5) (.range1 (.bin .mod (.bin .fdiv (.var 4) (.int 4)) (.int 4))) .none) .nil)) .nil))))
  .nil))))⟩
end AN
namespace NM
open PySem AM
local macro_rules | `(tactic| walk_at "am") => `(tactic| try simp only [st_set0, st_setS, iteTrue, iteFalse, iteDec, iteNDec, exSome, exBl, W_var, W_int, W_bl, W_non, W_str, W_tup, W_lst, W_bin, W_neg, W_cmp, W_isN, W_notN, W_lrev, W_maxd, W_sortk, wIsb, wNisb, W_chain, W_chain3, W_tst, W_ite, W_call, W_len, W_abs, W_isi, W_sub, WT_val, WT_not, WT_and, WT_or, WA_one, WA_cons, WO_one, WO_cons, WB_val, WB_not, WB_and, WB_or, WBA_one, WBA_cons, WBO_one, WBO_cons, WL_nil, WL_cons, WS_set, WS_ret, WS_retN, WS_pass, WS_brk, WS_cont, WS_drop, WS_ite, WS_raise, WSs_nil, Ss_set, Ss_ret, Ss_retN, Ss_pass, Ss_brk, Ss_cont, Ss_drop, Ss_raise, Ss_ite_ret, Ss_ite_retN, Ss_ite_raise, Ss_ite_cont, Ss_ite_brk, Ss_ite_last, gt_0, gt_S, wAdd_int, wSub_int, wMul_int, wMul_rep, wMul_str, wDiv_int, wMod_int, wPow_int, wAdd_str, wNeg_int, wAbs_int, wLt_int, wLe_int, wGt_int, wGe_int, wEq_int, wNe_int, wEq_bl, wNe_bl, wEq_str, wNe_str, wLen_tup, wLen_lst, tru_bl, tru_int, ty_int_int, ty_int_bool, ty_int_str, ty_int_tuple, ty_int_list, ty_int_dict, ty_bl_int, ty_bl_bool, ty_bl_str, ty_bl_tuple, ty_bl_list, ty_bl_dict, ty_str_int, ty_str_bool, ty_str_str, ty_str_tuple, ty_str_list, ty_str_dict, ty_tup_int, ty_tup_bool, ty_tup_str, ty_tup_tuple, ty_tup_list, ty_tup_dict, ty_lst_int, ty_lst_bool, ty_lst_str, ty_lst_tuple, ty_lst_list, ty_lst_dict, ty_dct_int, ty_dct_bool, ty_dct_str, ty_dct_tuple, ty_dct_list, ty_dct_dict, ty_non, sub_tup0, sub_tup1, sub_tup2, sub_tup3, sub_tup4, sub_tup5, sub_lst0, sub_lst1, sub_lst2, sub_lst3, sub_lst4, sub_lst5, startA, List.map_cons, List.map_nil, List.length_cons, List.length_nil, List.replicate, List.cons_append, List.nil_append, true_and, and_true, ne_eq, isNon, Bool.not_true, Bool.not_false, Bool.true_or, Bool.or_true, Bool.false_or, reduceIte, Nat.reduceAdd, Nat.zero_add, Int.cast_ofNat_Int, Int.reduceEq, Int.reduceLT, Int.reduceLE, Nat.reduceLeDiff, decide_true, decide_false, not_true_eq_false, not_false_eq_true, Nat.reduceSub, Int.reduceToNat, W_slice, W_blt, W_mth, W_comp, WOe_none, WOe_some, WI_seq, WI_keys, WI_items, WI_range1, WI_range2, WI_enum, WI_zip, WI_rev, WI_revr, WI_rangeD, WT0_none, WT0_some, Ss_asg, Ss_setSub, Ss_aug, WS_asg, WS_aug, WS_for, WS_setC, bT_name, bT_tup, bT_lst, bTs_nil, bTs_name, seq_lst, seq_tup, seq_scr, seq_str, seq_loc, en_tup, en_lst, en_scr, en_loc, lst_lst, lst_scr, lst_loc, exInt, exLoc, exLst, exLst1, exLV_lst, exLV_loc, mOk_app, mOk_pop, mOk_ext, mOk_ins, mOk_ind, mOk_join, mOk_indl, m_append, m_pop, m_extend, m_insert, m_join, b_listL, b_listT, b_listS, b_listK, b_tupL, b_tupT, b_tupK, b_max2, b_min2, b_ord, b_str, sl_lst, sl_loc, sl_scr, sl_tupE, sl_strE, cat_lst, cat_loc, cat_tup, wLen_scr, wLen_loc, wLen_str, wSub_scr, wSub_loc, wSub_str, aug_add, aug_sub, tru_lst, tru_tup, tru_non, ty_scr_list, sg_p0, sg_pl, ss_p0, ss_pl, ob_set0, ob_set1, ob_set2, ob_set3, ob_g0, ob_g1, ob_g2, ob_g3, List.append_assoc, List.length_append, List.nil_append, Nat.add_zero, Nat.add_assoc, Int.reduceNeg, wipeA, orc_run, orc_glob, orc_init, orc_isa, orc_gdct, W_isc, W_isE, W_isEt, orc_xk, m_upper, m_partition, m_split, m_endswith, m_find, mOk_upper, mOk_partition, mOk_split, mOk_endswith, mOk_find, b_intB, W_glob, W_gget, W_fld, W_mcall, W_make, W_make0, W_dsp, Ss_setFld, subO_l, subO_d, subO_k, lenO_l, lenO_d, listO_l, listO_d, putO_l, keyV_int, keyV_str, wIn_str, wNotin_str, mapSome, at_0, at_1, at_2, at_3, at_4, at_5, ix_1_0, ix_2_0, ix_2_1, ix_3_0, ix_3_1, ix_3_2, ix_4_0, ix_4_1, ix_4_2, ix_4_3, va_s0, va_s1, va_s2, va_s3])
local macro_rules | `(tactic| walk_at "if") => `(tactic| (try simp only []); rw [Ss_ite]; simp only [st_set0, st_setS, iteTrue, iteFalse, iteDec, iteNDec, exSome, exBl, W_var, W_int, W_bl, W_non, W_str, W_tup, W_lst, W_bin, W_neg, W_cmp, W_isN, W_notN, W_lrev, W_maxd, W_sortk, wIsb, wNisb, W_chain, W_chain3, W_tst, W_ite, W_call, W_len, W_abs, W_isi, W_sub, WT_val, WT_not, WT_and, WT_or, WA_one, WA_cons, WO_one, WO_cons, WB_val, WB_not, WB_and, WB_or, WBA_one, WBA_cons, WBO_one, WBO_cons, WL_nil, WL_cons, WS_set, WS_ret, WS_retN, WS_pass, WS_brk, WS_cont, WS_drop, WS_ite, WS_raise, WSs_nil, Ss_set, Ss_ret, Ss_retN, Ss_pass, Ss_brk, Ss_cont, Ss_drop, Ss_raise, Ss_ite_ret, Ss_ite_retN, Ss_ite_raise, Ss_ite_cont, Ss_ite_brk, Ss_ite_last, gt_0, gt_S, wAdd_int, wSub_int, wMul_int, wMul_rep, wMul_str, wDiv_int, wMod_int, wPow_int, wAdd_str, wNeg_int, wAbs_int, wLt_int, wLe_int, wGt_int, wGe_int, wEq_int, wNe_int, wEq_bl, wNe_bl, wEq_str, wNe_str, wLen_tup, wLen_lst, tru_bl, tru_int, ty_int_int, ty_int_bool, ty_int_str, ty_int_tuple, ty_int_list, ty_int_dict, ty_bl_int, ty_bl_bool, ty_bl_str, ty_bl_tuple, ty_bl_list, ty_bl_dict, ty_str_int, ty_str_bool, ty_str_str, ty_str_tuple, ty_str_list, ty_str_dict, ty_tup_int, ty_tup_bool, ty_tup_str, ty_tup_tuple, ty_tup_list, ty_tup_dict, ty_lst_int, ty_lst_bool, ty_lst_str, ty_lst_tuple, ty_lst_list, ty_lst_dict, ty_dct_int, ty_dct_bool, ty_dct_str, ty_dct_tuple, ty_dct_list, ty_dct_dict, ty_non, sub_tup0, sub_tup1, sub_tup2, sub_tup3, sub_tup4, sub_tup5, sub_lst0, sub_lst1, sub_lst2, sub_lst3, sub_lst4, sub_lst5, startA, List.map_cons, List.map_nil, List.length_cons, List.length_nil, List.replicate, List.cons_append, List.nil_append, true_and, and_true, ne_eq, isNon, Bool.not_true, Bool.not_false, Bool.true_or, Bool.or_true, Bool.false_or, reduceIte, Nat.reduceAdd, Nat.zero_add, Int.cast_ofNat_Int, Int.reduceEq, Int.reduceLT, Int.reduceLE, Nat.reduceLeDiff, decide_true, decide_false, not_true_eq_false, not_false_eq_true, Nat.reduceSub, Int.reduceToNat, W_slice, W_blt, W_mth, W_comp, WOe_none, WOe_some, WI_seq, WI_keys, WI_items, WI_range1, WI_range2, WI_enum, WI_zip, WI_rev, WI_revr, WI_rangeD, WT0_none, WT0_some, Ss_asg, Ss_setSub, Ss_aug, WS_asg, WS_aug, WS_for, WS_setC, bT_name, bT_tup, bT_lst, bTs_nil, bTs_name, seq_lst, seq_tup, seq_scr, seq_str, seq_loc, en_tup, en_lst, en_scr, en_loc, lst_lst, lst_scr, lst_loc, exInt, exLoc, exLst, exLst1, exLV_lst, exLV_loc, mOk_app, mOk_pop, mOk_ext, mOk_ins, mOk_ind, mOk_join, mOk_indl, m_append, m_pop, m_extend, m_insert, m_join, b_listL, b_listT, b_listS, b_listK, b_tupL, b_tupT, b_tupK, b_max2, b_min2, b_ord, b_str, sl_lst, sl_loc, sl_scr, sl_tupE, sl_strE, cat_lst, cat_loc, cat_tup, wLen_scr, wLen_loc, wLen_str, wSub_scr, wSub_loc, wSub_str, aug_add, aug_sub, tru_lst, tru_tup, tru_non, ty_scr_list, sg_p0, sg_pl, ss_p0, ss_pl, ob_set0, ob_set1, ob_set2, ob_set3, ob_g0, ob_g1, ob_g2, ob_g3, List.append_assoc, List.length_append, List.nil_append, Nat.add_zero, Nat.add_assoc, Int.reduceNeg, wipeA, orc_run, orc_glob, orc_init, orc_isa, orc_gdct, W_isc, W_isE, W_isEt, orc_xk, m_upper, m_partition, m_split, m_endswith, m_find, mOk_upper, mOk_partition, mOk_split, mOk_endswith, mOk_find, b_intB, W_glob, W_gget, W_fld, W_mcall, W_make, W_make0, W_dsp, Ss_setFld, subO_l, subO_d, subO_k, lenO_l, lenO_d, listO_l, listO_d, putO_l, keyV_int, keyV_str, wIn_str, wNotin_str, mapSome, at_0, at_1, at_2, at_3, at_4, at_5, ix_1_0, ix_2_0, ix_2_1, ix_3_0, ix_3_1, ix_3_2, ix_4_0, ix_4_1, ix_4_2, ix_4_3, va_s0, va_s1, va_s2, va_s3])
theorem fm (c m : Int) (hm : 0 < m) : 0 ≤ c.fmod m ∧ c.fmod m < m := by
  rw [Int.fmod_eq_emod_of_nonneg c (by omega)]
  exact ⟨Int.emod_nonneg c (by omega), Int.emod_lt_of_pos c hm⟩
theorem fd0 {c m : Int} (hc : 0 ≤ c) (hm : 0 < m) : 0 ≤ c.fdiv m := by
  rw [Int.fdiv_eq_ediv_of_nonneg _ (by omega)]
  exact Int.ediv_nonneg hc (by omega)
theorem cdv (j : Int) (h0 : 0 < j) (h : j.natAbs < 2 ^ 200) : CDivA j := by
  refine ⟨by omega, ?_⟩
  by_cases z : j.natAbs = 0
  · rw [z]; decide +kernel
  · exact (Nat.log2_lt z).mpr (Nat.lt_of_lt_of_le h (Nat.pow_le_pow_right (by decide) (by decide)))
theorem c30 : L2.CPow 10 30 := ⟨by decide, by decide, by decide⟩
abbrev ch (c : Nat) : Str := ⟨#[c]⟩
def sL : Str := "abcdefghijklmnopqrstuvwxyz"
theorem L_len : sL.cps.toList.length = 26 := by decide +kernel
theorem L_at (i : Nat) (h : i < 26) : sL.cps.toList[i]? = some (97 + i) := by
  have e : sL.cps.toList = List.range' 97 26 := by decide +kernel
  rw [e, List.getElem?_range' (by omega)]
  simp
/-- a name's letters -/
structure Nm (cs : List Nat) : Prop where
  pos : 1 ≤ cs.length
  max : cs.length ≤ 8
  let_ : ∀ c ∈ cs, 97 ≤ c ∧ c ≤ 122
def sx (cs : List Nat) : Str := ⟨cs.toArray⟩
theorem sx_len (cs : List Nat) : (sx cs).length = cs.length := by simp [sx, PySem.Str.length]
theorem sx_cut (cs : List Nat) (lo hi : Option Int) : L2.cutS (sx cs) lo hi = sx (cutA cs lo hi) := by
  unfold L2.cutS cutA sx
  simp [PySem.Str.length]
theorem sx_app (a b : List Nat) : sx a ++ sx b = sx (a ++ b) := by
  show (⟨a.toArray ++ b.toArray⟩ : Str) = ⟨(a ++ b).toArray⟩
  simp
theorem sx_ch (c : Nat) : ch c = sx [c] := rfl
theorem join_ch : ∀ cs : List Nat, Txt.join "" (cs.map ch) = sx cs := by
  intro cs
  show Builtin.Str.glued "" (cs.map ch) = _
  rw [StrLaws.glued_eq_join]
  induction cs with
  | nil => rfl
  | cons c r ih =>
    cases r with
    | nil => rfl
    | cons d r =>
      show ch c ++ "" ++ Str.join "" (ch d :: r.map ch) = _
      have ih' : Str.join "" (ch d :: r.map ch) = sx (d :: r) := ih
      rw [ih']
      show (⟨(#[c] ++ #[]) ++ (d :: r).toArray⟩ : Str) = ⟨(c :: d :: r).toArray⟩
      congr 1
      simp
theorem cutF {α : Type} {xs : List α} {k : Nat} : cutA xs (some (k : Int)) none = xs.drop k := by
  unfold cutA
  rw [HT.sIx_nat, HT.sIx_none]
  by_cases h : k ≤ xs.length
  · rw [Nat.min_eq_left h, List.take_of_length_le (by rw [List.length_drop]; omega)]
  · rw [Nat.min_eq_right (by omega), List.drop_length, List.drop_eq_nil_of_le (by omega), List.take_nil]
theorem cutT {α : Type} {xs : List α} {k : Nat} : cutA xs none (some (k : Int)) = xs.take k := by
  unfold cutA
  rw [HT.sIx_nat, HT.sIx_none, Nat.sub_zero, List.drop_zero]
  by_cases h : k ≤ xs.length
  · rw [Nat.min_eq_left h]
  · rw [Nat.min_eq_right (by omega), List.take_length, List.take_of_length_le (by omega)]
theorem cutB {α : Type} {xs : List α} : cutA xs (some (-8)) none = xs.drop (xs.length - 8) := by
  unfold cutA
  have e : HT.sIx xs.length 0 (some (-8)) = xs.length - 8 := by
    show (if (-8 : Int) < 0 then ((-8 : Int) + (xs.length : Int)).toNat else min (-8 : Int).toNat xs.length) = _
    rw [if_pos (by decide)]
    omega
  rw [e, HT.sIx_none]
  exact List.take_of_length_le (by rw [List.length_drop]; omega)
structure NmT (T : Tab) : Prop where
  cell : T "_law_cell" = some AN.f_l_cell
  mix : T "_law_mix" = some AN.f_l_mix
  name : T "_law_name" = some AN.f_l_name
structure PoT (T : Tab) : Prop extends NmT T where
  pool : T "_law_pool" = some AN.f_l_pool
structure PlT (T : Tab) : Prop extends NmT T where
  plain : T "_law_plain" = some AN.f_l_plain
structure TrT (T : Tab) : Prop extends PlT T where
  trait : T "_law_trait" = some AN.f_l_trait
/-- a cell's bits -/
def Cb (c : Int) : Prop := c.natAbs.log2 ≤ 1048576
section
variable {T : Tab} (t : NmT T)
include t
theorem cell_ok (ns : List Int) (hb : ∀ z ∈ ns, Builtin.Int.intBits z ≤ 1048576) (k : Nat) (i : Int) (hi : 0 ≤ i) {S : Sto} {P : PV} {E : PX} (h : ∀ c : Int, Cb c → P (.int c) S) : call T (k + 1) "_law_cell" [.scr ns, .int i] S P E := by
  refine call_def t.cell rfl ?_
  unfold AN.f_l_cell
  walk_at "am"
  obtain ⟨n, rfl⟩ := Int.eq_ofNat_of_zero_le hi
  split
  · rename_i hl
    have hl' : n < ns.length := by omega
    exact ⟨ns[n], L2.atI_nat (by simp [hl']), fin_keep (h _ (bits_lg (hb _ (List.getElem_mem hl'))))⟩
  · exact fin_keep (h 0 (Nat.zero_le _))
theorem mix_ok (k : Nat) (c w : Int) (hc : Cb c) (hw : w.natAbs ≤ 20000) {S : Sto} {P : PV} {E : PX} (h : ∀ m : Int, 0 ≤ m → m < 1000003 → P (.int m) S) : call T (k + 1) "_law_mix" [.int c, .int w] S P E := by
  refine call_def t.mix rfl ?_
  unfold AN.f_l_mix
  walk_at "am"
  have l1 : (48271 : Int).natAbs.log2 ≤ 16 := lgl (by decide)
  have l2 : (7919 : Int).natAbs.log2 ≤ 16 := lgl (by decide)
  have l3 : w.natAbs.log2 ≤ 15 := lgl (by omega)
  have m1 := fm (c * 48271 + w * 7919) 2147483647 (by decide)
  generalize (c * 48271 + w * 7919).fmod 2147483647 = m at *
  have l4 : m.natAbs.log2 ≤ 31 := lgl (by omega)
  have l5 : (16807 + 2 * w).natAbs.log2 ≤ 17 := lgl (by omega)
  have l6 : (2 : Int).natAbs.log2 ≤ 2 := lgl (by decide)
  have m2 := fm (m * (16807 + 2 * w)) 1000003 (by decide)
  unfold Cb at hc
  exact ⟨by unfold CMulA; omega, by unfold CMulA; omega, by unfold CMulA; omega, by unfold CMulA; omega, fin_keep (h _ m2.1 m2.2)⟩
theorem name_ok (k : Nat) (c w : Int) (hc : Cb c) (hw : w.natAbs ≤ 19000) {S : Sto} {P : PV} {E : PX} (h : ∀ cs : List Nat, Nm cs → P (.str (sx cs)) S) : call T (k + 2) "_law_name" [.int c, .int w] S P E := by
  refine call_def t.name rfl ?_
  unfold AN.f_l_name
  walk_at "am"
  refine mix_ok t _ c (w + 3) hc (by omega) fun m m0 m1 => ?_
  walk_at "am"
  have m8 := fm m 8 (by decide)
  refine ⟨by omega, by omega, ?_⟩
  refine cpL_inv (call_mono _ _) (fun i acc => ∃ cs : List Nat, cs.length = i ∧ (∀ c ∈ cs, 97 ≤ c ∧ c ≤ 122) ∧ acc = (cs.map ch).map Va.str) (fun acc => trivial) ⟨[], rfl, by simp, rfl⟩ ?_ ?_
  · rintro i x acc hx ⟨cs, h1, h2, rfl⟩
    obtain ⟨hi, rfl⟩ := rangeV_get hx
    refine ⟨_, rfl, ?_⟩
    walk_at "am"
    refine ⟨by have l1 : (5 : Int).natAbs.log2 ≤ 3 := lgl (by decide); have l2 : ((0 : Int) + (i : Nat)).natAbs.log2 ≤ 4 := lgl (by omega); unfold CMulA; omega, ?_⟩
    refine mix_ok t _ c _ hc (by omega) fun m m0 m1 => ?_
    have m26 := fm m 26 (by decide)
    obtain ⟨j, hj⟩ := Int.eq_ofNat_of_zero_le m26.1
    walk_at "am"
    rw [hj]
    refine ⟨97 + j, by decide +kernel, L2.atI_nat (L_at j (by omega)), ?_⟩
    refine ⟨by rw [List.length_map, List.length_map]; omega, cs ++ [97 + j], by rw [List.length_append, h1]; rfl, fun c hc => ?_, by simp⟩
    rcases List.mem_append.mp hc with z | z
    · exact h2 c z
    · rw [List.mem_singleton.mp z]; omega
  rintro acc ⟨cs, h1, h2, rfl⟩
  rw [rangeV_len] at h1
  have hcs : Nm cs := ⟨by omega, by omega, h2⟩
  refine ⟨cs.map ch, .inr LV.here, ?_, ?_⟩
  · have e1 : ((cs.map ch).map Str.length) = List.replicate cs.length 1 := by
      rw [List.map_map]
      refine List.eq_replicate_iff.mpr ⟨by simp, fun x hx => ?_⟩
      obtain ⟨c, _, rfl⟩ := List.mem_map.mp hx
      rfl
    rw [e1, List.sum_replicate_nat, List.length_map]
    show cs.length * 1 + cs.length * 0 ≤ 16777216
    omega
  · rw [join_ch]
    exact fin_val rfl (h cs hcs)
end
theorem Nm.two {cs : List Nat} (h : Nm cs) {p : Nat} (hp : p < cs.length) {c : Nat} (hc : 97 ≤ c ∧ c ≤ 122) : Nm (cs.take p ++ [c] ++ cs.drop (p + 1)) where
  pos := by simp; omega
  max := by
    have := h.max
    simp only [List.length_append, List.length_take, List.length_drop, List.length_singleton]
    omega
  let_ := fun x hx => by
    rcases List.mem_append.mp hx with z | z
    · rcases List.mem_append.mp z with z | z
      · exact h.let_ x (List.mem_of_mem_take z)
      · rw [List.mem_singleton.mp z]; exact hc
    · exact h.let_ x (List.mem_of_mem_drop z)
theorem Nm.three {cs : List Nat} (h : Nm cs) {c : Nat} (hc : 97 ≤ c ∧ c ≤ 122) (m : Nat) (hm : m ≤ cs.length) (hm2 : cs.length + 1 - m ≤ 8) : Nm ((cs ++ [c]).drop m) where
  pos := by simp only [List.length_drop, List.length_append, List.length_singleton]; omega
  max := by simp only [List.length_drop, List.length_append, List.length_singleton]; omega
  let_ := fun x hx => by
    rcases List.mem_append.mp (List.mem_of_mem_drop hx) with z | z
    · exact h.let_ x z
    · rw [List.mem_singleton.mp z]; exact hc
/-- four names -/
def pv (ps : List (List Nat)) : List Va := ps.map fun cs => .str (sx cs)
def Pool (ps : List (List Nat)) : Prop := ps.length = 4 ∧ ∀ cs ∈ ps, Nm cs
theorem pls_pv (ps : List (List Nat)) : pls (pv ps) = true := pls_iff.mpr fun x hx => by
  obtain ⟨q, _, rfl⟩ := List.mem_map.mp hx
  rfl
section
variable {T : Tab} (t : PoT T)
include t
theorem pool_ok (ns : List Int) (hb : ∀ z ∈ ns, Builtin.Int.intBits z ≤ 1048576) (k : Nat) (at_ : Int) (hat : 0 ≤ at_) {S : Sto} {P : PV} {E : PX} (h : ∀ ps : List (List Nat), Pool ps → P (.lst (pv ps)) S) : call T (k + 3) "_law_pool" [.scr ns, .int at_] S P E := by
  refine call_def t.pool rfl ?_
  unfold AN.f_l_pool
  walk_at "am"
  refine cell_ok t.toNmT ns hb _ at_ hat fun c1 hc1 => ?_
  refine name_ok t.toNmT _ c1 1 hc1 (by decide) fun cs hcs => ?_
  walk_at "am"
  refine cell_ok t.toNmT ns hb _ (at_ + 1) (by omega) fun c2 hc2 => ?_
  refine mix_ok t.toNmT _ c2 2 hc2 (by decide) fun m m0 m1 => ?_
  walk_at "am"
  have hcl : (sx cs).length = cs.length := sx_len cs
  have hp := hcs.pos
  have hx := hcs.max
  have sl : sizeLine = 2 ^ 24 := by decide
  rw [hcl]
  have mp := fm m cs.length (by omega)
  obtain ⟨p, hp2⟩ := Int.eq_ofNat_of_zero_le mp.1
  have hpl : p < cs.length := by omega
  have m26 := fm (m.fdiv 8) 26 (by decide)
  obtain ⟨j, hj⟩ := Int.eq_ofNat_of_zero_le m26.1
  have hj26 : j < 26 := by omega
  rw [hp2, hj]
  have hc : 97 ≤ 97 + j ∧ 97 + j ≤ 122 := by omega
  have e1 : L2.cutS (sx cs) none (some (p : Int)) = sx (cs.take p) := by rw [sx_cut, cutT]
  have e2 : L2.cutS (sx cs) (some ((p : Int) + 1)) none = sx (cs.drop (p + 1)) := by rw [show (p : Int) + 1 = ((p + 1 : Nat) : Int) by push_cast; rfl, sx_cut, cutF]
  have e3 : L2.cutS (sx cs ++ ⟨#[97 + j]⟩) (some (-8)) none = sx ((cs ++ [97 + j]).drop (cs.length + 1 - 8)) := by
    show L2.cutS (sx cs ++ sx [97 + j]) (some (-8)) none = _
    rw [sx_app, sx_cut, cutB, List.length_append, List.length_singleton]
  refine ⟨by omega, by omega, cdv 8 (by decide) (by decide), 97 + j, by decide +kernel, L2.atI_nat (L_at j hj26), by omega, ?_⟩
  rw [e1, e2, e3]
  have l1 : (⟨#[97 + j]⟩ : Str).length = 1 := rfl
  refine ⟨by rw [sx_len, List.length_take, l1]; omega, by omega, ?_, by rw [l1]; omega, ?_, ?_⟩
  · show (sx (cs.take p) ++ sx [97 + j]).length + _ ≤ _
    rw [sx_app, sx_len, sx_len]
    simp only [List.length_append, List.length_take, List.length_drop, List.length_singleton]
    omega
  · show (sx cs ++ sx [97 + j]).length ≤ _
    rw [sx_app, sx_len]
    simp only [List.length_append, List.length_singleton]
    omega
  refine cell_ok t.toNmT ns hb _ (at_ + 1) (by omega) fun c3 hc3 => ?_
  refine name_ok t.toNmT _ c3 4 hc3 (by decide) fun ds hds => ?_
  have hfin := h [cs, cs.take p ++ [97 + j] ++ cs.drop (p + 1), (cs ++ [97 + j]).drop (cs.length + 1 - 8), ds] ⟨rfl, fun x hx => ?_⟩
  · refine fin_lst0 (xs := pv [cs, cs.take p ++ [97 + j] ++ cs.drop (p + 1), (cs ++ [97 + j]).drop (cs.length + 1 - 8), ds]) ?_ (pls_pv _) hfin
    show some (Ob.lst [Va.str (sx cs), Va.str (sx (cs.take p) ++ sx [97 + j] ++ sx (cs.drop (p + 1))), _, _]) = _
    rw [sx_app, sx_app]
    rfl
  · simp only [List.mem_cons, List.not_mem_nil, or_false] at hx
    rcases hx with rfl | rfl | rfl | rfl
    · exact hcs
    · exact hcs.two hpl hc
    · exact hcs.three hc _ (by omega) (by omega)
    · exact hds
end
/-! ### traits told -/
inductive Tr where
  | any | name (cs : List Nat) | mark (cs : List Nat) | placed (back : Bool) (first every : Int) | not (t : Tr) | one (ts : List Tr)
mutual
def told : Tr → Va
  | .any => .tup [.str "any"]
  | .name cs => .tup [.str "name", .str (sx cs)]
  | .mark cs => .tup [.str "mark", .str (sx cs)]
  | .placed b f e => .tup [.str (if b = true then "back" else "front"), .int f, .int e]
  | .not t => .tup [.str "not", told t]
  | .one ts => .tup [.str "one", .tup (tolds ts)]
def tolds : List Tr → List Va
  | [] => []
  | t :: ts => told t :: tolds ts
end
mutual
theorem pl_told : ∀ t : Tr, pl (told t) = true
  | .any => rfl
  | .name _ => rfl
  | .mark _ => rfl
  | .placed _ _ _ => rfl
  | .not t => by
    show (pl (.str "not") && (pl (told t) && true)) = true
    rw [pl_told t]; rfl
  | .one ts => by
    show (pl (.str "one") && (pls (tolds ts) && true)) = true
    rw [pls_tolds ts]; rfl
theorem pls_tolds : ∀ ts : List Tr, pls (tolds ts) = true
  | [] => rfl
  | t :: ts => by
    show (pl (told t) && pls (tolds ts)) = true
    rw [pl_told t, pls_tolds ts]; rfl
end
theorem tolds_app : ∀ (ts us : List Tr), tolds (ts ++ us) = tolds ts ++ tolds us
  | [], _ => rfl
  | t :: ts, us => by
    show told t :: tolds (ts ++ us) = told t :: (tolds ts ++ tolds us)
    rw [tolds_app ts us]
theorem tolds_len : ∀ ts : List Tr, (tolds ts).length = ts.length
  | [] => rfl
  | t :: ts => by
    show (told t :: tolds ts).length = _
    rw [List.length_cons, tolds_len ts]; rfl
theorem tolds_get : ∀ {ts : List Tr} {i : Nat} {x : Va}, (tolds ts)[i]? = some x → ∃ t, ts[i]? = some t ∧ x = told t
  | [], i, x, h => nomatch h
  | t :: ts, 0, x, h => ⟨t, rfl, (Option.some.inj h).symm⟩
  | t :: ts, i + 1, x, h => tolds_get (ts := ts) h
/-- traits of at most so deep, of the names of a pool -/
inductive TrP (ps : List (List Nat)) : Nat → Tr → Prop
  | any {n : Nat} : TrP ps n .any
  | name {n : Nat} {cs : List Nat} : cs ∈ ps → TrP ps n (.name cs)
  | mark {n : Nat} {cs : List Nat} : cs ∈ ps → TrP ps n (.mark cs)
  | placed {n : Nat} (b : Bool) {f e : Int} : 0 ≤ f → 0 ≤ e → TrP ps n (.placed b f e)
  | not {n : Nat} {t : Tr} : TrP ps n t → TrP ps (n + 1) (.not t)
  | one {n : Nat} {ts : List Tr} : (∀ t ∈ ts, TrP ps n t) → ts.length ≤ 60 → TrP ps (n + 1) (.one ts)
section
variable {T : Tab} (t : PlT T)
include t
theorem plain_ok (k : Nat) (c w : Int) (hc : Cb c) (hw : w.natAbs ≤ 19000) {ps : List (List Nat)} (hp : Pool ps) {u : Va} {S : Sto} {P : PV} {E : PX} (hu : LV S u (pv ps)) (h : ∀ tr, (∀ n, TrP ps n tr) → P (told tr) S) : call T (k + 2) "_law_plain" [.int c, .int w, u] S P E := by
  refine call_def t.plain rfl ?_
  unfold AN.f_l_plain
  walk_at "am"
  refine mix_ok t.toNmT _ c w hc (by omega) fun m m0 m1 => ?_
  walk_at "am"
  have k6 := fm m 6 (by decide)
  have a6 := fm (m.fdiv 6) 6 (by decide)
  have a36 := fm (m.fdiv 36) 4 (by decide)
  have a4 := fm (m.fdiv 6) 4 (by decide)
  obtain ⟨j, hj⟩ := Int.eq_ofNat_of_zero_le a4.1
  obtain ⟨cs, hcs⟩ : ∃ cs, ps[j]? = some cs := ⟨ps[j]'(by have := hp.1; omega), by simp [show j < ps.length by have := hp.1; omega]⟩
  have hpv : (pv ps)[j]? = some (.str (sx cs)) := by unfold pv; rw [List.getElem?_map, hcs]; rfl
  have hmem := List.mem_of_getElem? hcs
  by_cases c0 : m.fmod 6 = 0
  · rw [if_pos c0]
    exact fin_keep (h .any fun n => .any)
  rw [if_neg c0]
  by_cases c5 : m.fmod 6 = 5
  · rw [if_pos c5]
    exact fin_keep (h .any fun n => .any)
  rw [if_neg c5, hj]
  by_cases c1 : m.fmod 6 = 1
  · rw [if_pos c1]
    refine ⟨cdv 6 (by decide) (by decide), hu.sub (L2.atI_nat hpv) ?_⟩
    exact fin_keep (h (.name cs) fun n => .name hmem)
  rw [if_neg c1]
  by_cases c2 : m.fmod 6 = 2
  · rw [if_pos c2]
    refine ⟨cdv 6 (by decide) (by decide), hu.sub (L2.atI_nat hpv) ?_⟩
    exact fin_keep (h (.mark cs) fun n => .mark hmem)
  rw [if_neg c2]
  refine ⟨cdv 6 (by decide) (by decide), cdv 36 (by decide) (by decide), ?_⟩
  have big := fm c (10 ^ 30) (by decide)
  have f1152 := fd0 (c := m) (m := 1152) m0 (by decide)
  refine seq_cut (call_mono _ _) (fun Γ S' => S = S' ∧ ∃ f e : Int, 0 ≤ f ∧ 0 ≤ e ∧ Γ = [some (.int c), some (.int w), some u, some (.int m), some (.int (m.fmod 6)), some (.int f), some (.int e)]) ?_ ?_
  · walk_at "am"
    refine ⟨cdv 144 (by decide) (by decide), ?_⟩
    split
    · refine ⟨c30, by decide, cdv 1152 (by decide) (by decide), ?_⟩
      first | exact ⟨rfl, ⟨_, _, big.1, f1152, rfl⟩⟩ | exact ⟨_, _, big.1, f1152, rfl⟩
    · first | exact ⟨rfl, ⟨_, _, a6.1, a36.1, rfl⟩⟩ | exact ⟨_, _, a6.1, a36.1, rfl⟩
  rintro Γ S' ⟨rfl, f, e, f0, e0, rfl⟩
  refine seq_cut (call_mono _ _) (fun Γ S' => S = S' ∧ ∃ f e : Int, 0 ≤ f ∧ 0 ≤ e ∧ Γ = [some (.int c), some (.int w), some u, some (.int m), some (.int (m.fmod 6)), some (.int f), some (.int e)]) ?_ ?_
  · walk_at "am"
    refine ⟨cdv 144 (by decide) (by decide), ?_⟩
    split
    · refine ⟨c30, by decide, ?_⟩
      first | exact ⟨rfl, ⟨_, _, f0, big.1, rfl⟩⟩ | exact ⟨_, _, f0, big.1, rfl⟩
    · first | exact ⟨rfl, ⟨_, _, f0, e0, rfl⟩⟩ | exact ⟨_, _, f0, e0, rfl⟩
  rintro Γ S' ⟨rfl, f, e, f0, e0, rfl⟩
  walk_at "am"
  have k2 := fm (m.fmod 6) 2 (by decide)
  by_cases hz : (m.fmod 6).fmod 2 = 0
  · rw [hz]
    refine ⟨.str "front", rfl, ?_⟩
    exact fin_val rfl (h (.placed false f e) fun n => .placed false f0 e0)
  · rw [show (m.fmod 6).fmod 2 = 1 by omega]
    refine ⟨.str "back", rfl, ?_⟩
    exact fin_val rfl (h (.placed true f e) fun n => .placed true f0 e0)
end
section
variable {T : Tab} (t : TrT T)
include t
theorem trait_ok : ∀ (dp k : Nat) (c w : Int), Cb c → (w.natAbs + 100 * dp ≤ 19000) → ∀ {ps : List (List Nat)}, Pool ps → ∀ {u : Va} {S : Sto} {P : PV} {E : PX}, LV S u (pv ps) → (∀ tr, TrP ps dp tr → P (told tr) S) → call T (k + dp + 3) "_law_trait" [.int c, .int w, u, .int dp] S P E := by
  intro dp
  induction dp with
  | zero =>
    intro k c w hc hw ps hp u S P E hu h
    refine call_def t.trait rfl ?_
    unfold AN.f_l_trait
    walk_at "am"
    refine mix_ok t.toNmT _ c _ hc (by omega) fun m m0 m1 => ?_
    walk_at "am"
    refine plain_ok t.toPlT _ c w hc (by omega) hp hu fun tr htr => ?_
    exact fin_keep (h tr (htr 0))
  | succ dp ih =>
    intro k c w hc hw ps hp u S P E hu h
    refine call_def t.trait rfl ?_
    unfold AN.f_l_trait
    walk_at "am"
    refine mix_ok t.toNmT _ c _ hc (by omega) fun m m0 m1 => ?_
    walk_at "am"
    rw [if_neg (by omega)]
    have q4 := fm (m.fdiv 4) 4 (by decide)
    have ed : ((dp + 1 : Nat) : Int) - 1 = (dp : Nat) := by omega
    split
    · refine plain_ok t.toPlT _ c w hc (by omega) hp hu fun tr htr => ?_
      exact fin_keep (h tr (htr _))
    split
    · rw [ed]
      refine ih k c (w + 7) hc (by omega) hp hu fun tr htr => ?_
      exact fin_keep (h (.not tr) (.not htr))
    refine ⟨cdv 4 (by decide) (by decide), by omega, by omega, ?_⟩
    refine cpL_inv (call_mono _ _) (fun i acc => ∃ ts : List Tr, ts.length = i ∧ (∀ t ∈ ts, TrP ps dp t) ∧ acc = tolds ts) (fun acc => trivial) ⟨[], rfl, by simp, rfl⟩ ?_ ?_
    · rintro i x acc hx ⟨ts, h1, h2, rfl⟩
      obtain ⟨hi, rfl⟩ := rangeV_get hx
      refine ⟨_, rfl, ?_⟩
      walk_at "am"
      refine ⟨by have l1 : (19 : Int).natAbs.log2 ≤ 5 := lgl (by decide); have l2 : ((0 : Int) + (i : Nat)).natAbs.log2 ≤ 4 := lgl (by omega); unfold CMulA; omega, ?_⟩
      rw [ed]
      refine ih k c _ hc (by omega) hp (hu.more _) fun tr htr => ?_
      refine ⟨rfl, by rw [tolds_len]; omega, ts ++ [tr], by rw [List.length_append, h1]; rfl, fun y hy => ?_, by rw [tolds_app]; rfl⟩
      rcases List.mem_append.mp hy with z | z
      · exact h2 y z
      · rw [List.mem_singleton.mp z]; exact htr
    rintro acc ⟨ts, h1, h2, rfl⟩
    rw [rangeV_len] at h1
    walk_at "am"
    refine fin_val ?_ (h (.one ts) (.one h2 (by omega)))
    exact pl_told (.one ts)
end
end NM
end

section
set_option linter.all false
set_option maxRecDepth 100000
set_option maxHeartbeats 4000000
open PySem
namespace Hd
open AM
def f__wall : Fn := ⟨["k"], ["k"],
  (.cons (.whil (.val (.bl true)) (.cons .pass
  .nil))
  .nil)⟩
def f_beneath : Fn := ⟨["tree", "box"], ["tree", "box", "told", "todo", "one"],
  (.cons (.set 2 (.lst .nil))
  (.cons (.set 3 (.lrev (.mcall (.var 0) "boxes_of" (.cons (.var 1) .nil))))
  (.cons (.whil (.val (.var 3)) (.cons (.set 4 (.mth .pop (.var 3) .nil))
  (.cons (.drop (.mth .append (.var 2) (.cons (.var 4) .nil)))
  (.cons (.drop (.mth .extend (.var 3) (.cons (.lrev (.mcall (.var 0) "boxes_of" (.cons (.var 4) .nil))) .nil)))
  .nil))))
  (.cons (.ret (.var 2))
  .nil))))⟩
def f_gathered : Fn := ⟨["tree", "box", "keep"], ["tree", "box", "keep", "told", "one"],
  (.cons (.set 3 (.lst .nil))
  (.cons (.for_ (.name 4) (.seq (.bin .add (.lst (.cons (.var 1) .nil)) (.call "beneath" (.cons (.var 0) (.cons (.var 1) .nil))))) (.cons (.ite (.val (.callv 2 (.cons (.var 4) .nil))) (.cons (.drop (.mth .append (.var 3) (.cons (.var 4) .nil)))
  .nil) .nil)
  .nil))
  (.cons (.ret (.var 3))
  .nil)))⟩
def f_is_name : Fn := ⟨["thing"], ["thing", "sign"],
  (.cons (.ite (.or (.cons (.not (.val (.isi (.var 0) .str))) (.one (.not (.val (.chain .le .le (.int 1) (.len (.var 0)) (.int 8))))))) (.cons (.ret (.bl false))
  .nil) .nil)
  (.cons (.for_ (.name 1) (.seq (.var 0)) (.cons (.ite (.val (.cmp .notin (.var 1) (.glob "LETTERS"))) (.cons (.ret (.bl false))
  .nil) .nil)
  .nil))
  (.cons (.ret (.bl true))
  .nil)))⟩
def f_l_cell : Fn := ⟨["_law_script", "_law_k"], ["_law_script", "_law_k"],
  (.cons (.ite (.val (.cmp .lt (.var 1) (.len (.var 0)))) (.cons (.ret (.sub (.var 0) (.var 1)))
  .nil) .nil)
  (.cons (.ret (.int 0))
  .nil))⟩
def f_l_mix : Fn := ⟨["_law_cell_here", "_law_way"], ["_law_cell_here", "_law_way", "_law_first"],
  (.cons (.set 2 (.bin .mod (.bin .add (.bin .mul (.var 0) (.int 48271)) (.bin .mul (.var 1) (.int 7919))) (.int 2147483647)))
  (.cons (.ret (.bin .mod (.bin .mul (.var 2) (.bin .add (.int 16807) (.bin .mul (.int 2) (.var 1)))) (.int 1000003)))
  .nil))⟩
def f_l_name : Fn := ⟨["_law_cell_here", "_law_way"], ["_law_cell_here", "_law_way", "_law_letters", "_law_size", "_law_k"],
  (.cons (.set 2 (.str "abcdefghijklmnopqrstuvwxyz"))
  (.cons (.set 3 (.bin .add (.int 1) (.bin .mod (.call "_law_mix" (.cons (.var 0) (.cons (.bin .add (.var 1) (.int 3)) .nil))) (.int 8))))
  (.cons (.ret (.mth .join (.str "") (.cons (.comp [4] (.sub (.var 2) (.bin .mod (.call "_law_mix" (.cons (.var 0) (.cons (.bin .add (.var 1) (.bin .mul (.int 5) (.var 4))) .nil))) (.int 26))) (.name 4) (.range1 (.var 3)) .none) .nil)))
  .nil)))⟩
def f_l_whole : Fn := ⟨["_law_found"], ["_law_found"],
  (.cons (.ret (.tst (.and (.cons (.val (.isi (.var 0) .int)) (.one (.not (.val (.isi (.var 0) .bool))))))))
  .nil)⟩
def f_l_same_row : Fn := ⟨["_law_found", "_law_due"], ["_law_found", "_law_due", "_law_k"],
  (.cons (.ite (.or (.cons (.not (.val (.isi (.var 0) .list))) (.one (.val (.cmp .ne (.len (.var 0)) (.len (.var 1))))))) (.cons (.ret (.bl false))
  .nil) .nil)
  (.cons (.for_ (.name 2) (.range1 (.len (.var 1))) (.cons (.ite (.or (.cons (.not (.val (.call "_law_whole" (.cons (.sub (.var 0) (.var 2)) .nil)))) (.one (.val (.cmp .ne (.sub (.var 0) (.var 2)) (.sub (.var 1) (.var 2))))))) (.cons (.ret (.bl false))
  .nil) .nil)
  .nil))
  (.cons (.ret (.bl true))
  .nil)))⟩
def f_l_under : Fn := ⟨["_law_rows", "_law_box"], ["_law_rows", "_law_box", "_law_told", "_law_todo", "_law_one"],
  (.cons (.set 2 (.lst .nil))
  (.cons (.set 3 (.lst (.cons (.var 1) .nil)))
  (.cons (.whil (.val (.cmp .gt (.len (.var 3)) (.int 0))) (.cons (.set 4 (.mth .pop (.var 3) .nil))
  (.cons (.drop (.mth .append (.var 2) (.cons (.var 4) .nil)))
  (.cons (.drop (.mth .extend (.var 3) (.cons (.lrev (.sub (.var 0) (.var 4))) .nil)))
  .nil))))
  (.cons (.ret (.var 2))
  .nil))))⟩
def f_l_deep : Fn := ⟨["_law_facts", "_law_box"], ["_law_facts", "_law_box", "_law_deep_here"],
  (.cons (.set 2 (.int 0))
  (.cons (.whil (.val (.notN (.sub (.sub (.var 0) (.var 1)) (.int 0)))) (.cons (.set 1 (.sub (.sub (.var 0) (.var 1)) (.int 0)))
  (.cons (.set 2 (.bin .add (.var 2) (.int 1)))
  .nil)))
  (.cons (.ret (.var 2))
  .nil)))⟩
def f_l_put : Fn := ⟨["_law_tree", "_law_rows", "_law_facts", "_law_number", "_law_cell_here", "_law_way"], ["_law_tree", "_law_rows", "_law_facts", "_law_number", "_law_cell_here", "_law_way", "_law_some", "_law_box", "_law_draw", "_law_holder", "_law_place", "_law_name_here", "_law_made"],
  (.cons (.lck (.setC 6 [7] (.var 7) (.name 7) (.keys (.var 1)) (.some (.val (.cmp .lt (.call "_law_deep" (.cons (.var 2) (.cons (.var 7) .nil))) (.int 12))))))
  (.cons (.set 8 (.call "_law_mix" (.cons (.var 4) (.cons (.var 5) .nil))))
  (.cons (.set 9 (.sub (.var 6) (.neg (.int 1))))
  (.cons (.ite (.val (.cmp .eq (.bin .mod (.var 8) (.int 2)) (.int 0))) (.cons (.set 9 (.sub (.var 6) (.bin .mod (.bin .fdiv (.var 8) (.int 2)) (.len (.var 6)))))
  .nil) .nil)
  (.cons (.set 10 (.bin .mod (.call "_law_mix" (.cons (.var 4) (.cons (.bin .add (.var 5) (.int 1)) .nil))) (.bin .add (.len (.sub (.var 1) (.var 9))) (.int 1))))
  (.cons (.set 11 (.call "_law_name" (.cons (.var 4) (.cons (.bin .add (.var 5) (.int 2)) .nil))))
  (.cons (.set 12 (.mcall (.var 0) "put" (.cons (.var 9) (.cons (.var 10) (.cons (.var 11) .nil)))))
  (.cons (.drop (.mth .insert (.sub (.var 1) (.var 9)) (.cons (.var 10) (.cons (.var 3) .nil))))
  (.cons (.setSub (.var 1) (.var 3) (.lst .nil))
  (.cons (.setSub (.var 2) (.var 3) (.tup (.cons (.var 9) (.cons (.var 11) .nil))))
  (.cons (.ret (.tst (.and (.cons (.val (.call "_law_whole" (.cons (.var 12) .nil))) (.one (.val (.cmp .eq (.var 12) (.var 3))))))))
  .nil)))))))))))⟩
def f_l_moved : Fn := ⟨["_law_tree", "_law_rows", "_law_facts", "_law_cell_here", "_law_way"], ["_law_tree", "_law_rows", "_law_facts", "_law_cell_here", "_law_way", "_law_some", "_law_box", "_law_under_here", "_law_tall", "_law_one", "_law_free", "_law_draw", "_law_holder", "_law_rest", "_law_place", "_law_due", "_law_told"],
  (.cons (.set 5 (.blt .list (.cons (.var 1) .nil)))
  (.cons (.set 6 (.sub (.var 5) (.bin .add (.int 1) (.bin .mod (.call "_law_mix" (.cons (.var 3) (.cons (.var 4) .nil))) (.bin .sub (.len (.var 5)) (.int 1))))))
  (.cons (.set 7 (.call "_law_under" (.cons (.var 1) (.cons (.var 6) .nil))))
  (.cons (.set 8 (.bin .sub (.blt .max1 (.cons (.comp [9] (.call "_law_deep" (.cons (.var 2) (.cons (.var 9) .nil))) (.name 9) (.seq (.var 7)) .none) .nil)) (.call "_law_deep" (.cons (.var 2) (.cons (.var 6) .nil)))))
  (.cons (.setC 10 [9] (.var 9) (.name 9) (.seq (.var 5)) (.some (.and (.cons (.val (.cmp .notin (.var 9) (.var 7))) (.one (.val (.cmp .le (.bin .add (.bin .add (.call "_law_deep" (.cons (.var 2) (.cons (.var 9) .nil))) (.int 1)) (.var 8)) (.int 12))))))))
  (.cons (.set 11 (.call "_law_mix" (.cons (.var 3) (.cons (.bin .add (.var 4) (.int 1)) .nil))))
  (.cons (.set 12 (.sub (.var 10) (.bin .mod (.bin .fdiv (.var 11) (.int 3)) (.len (.var 10)))))
  (.cons (.ite (.val (.cmp .eq (.bin .mod (.var 11) (.int 3)) (.int 0))) (.cons (.set 12 (.sub (.sub (.var 2) (.var 6)) (.int 0)))
  .nil) .nil)
  (.cons (.setC 13 [9] (.var 9) (.name 9) (.seq (.sub (.var 1) (.var 12))) (.some (.val (.cmp .ne (.var 9) (.var 6)))))
  (.cons (.set 14 (.bin .mod (.call "_law_mix" (.cons (.var 3) (.cons (.bin .add (.var 4) (.int 2)) .nil))) (.bin .add (.len (.var 13)) (.int 1))))
  (.cons (.drop (.mth .insert (.var 13) (.cons (.var 14) (.cons (.var 6) .nil))))
  (.cons (.set 15 (.cmp .ne (.var 13) (.sub (.var 1) (.var 12))))
  (.cons (.set 16 (.mcall (.var 0) "move" (.cons (.var 6) (.cons (.var 12) (.cons (.var 14) .nil)))))
  (.cons (.drop (.mth .remove (.sub (.var 1) (.sub (.sub (.var 2) (.var 6)) (.int 0))) (.cons (.var 6) .nil)))
  (.cons (.setSub (.var 1) (.var 12) (.var 13))
  (.cons (.setSub (.var 2) (.var 6) (.tup (.cons (.var 12) (.cons (.sub (.sub (.var 2) (.var 6)) (.int 1)) .nil))))
  (.cons (.ret (.tst (.and (.cons (.val (.isi (.var 16) .bool)) (.cons (.val (.cmp .eq (.var 16) (.var 15))) (.one (.val (.call "_law_same_row" (.cons (.mcall (.var 0) "boxes_of" (.cons (.var 12) .nil)) (.cons (.var 13) .nil))))))))))
  .nil)))))))))))))))))⟩
def f_l_missing_i0 : Fn := ⟨["_law_one"], ["_law_one"],
  (.cons (.ret (.bl true))
  .nil)⟩
def f_l_missing : Fn := ⟨["_law_tree", "_law_box"], ["_law_tree", "_law_box"],
  (.cons (.try_ (.cons (.drop (.callc "gathered" (.cons (.var 0) (.cons (.var 1) .nil)) "_law_missing@0" "_law_missing.<locals>.<lambda>" []))
  .nil) "NoBox" none (.cons (.ret (.bl true))
  .nil))
  (.cons (.ret (.bl false))
  .nil))⟩
def f_l_tried_i0 : Fn := ⟨["_law_five"], ["_law_five"],
  (.cons (.ret (.bl true))
  .nil)⟩
def f_l_tried_i1 : Fn := ⟨["_law_four", "_law_marked", "_law_under_here"], ["_law_four", "_law_marked", "_law_under_here"],
  (.cons (.ret (.tst (.or (.cons (.val (.cmp .isin (.var 0) (.var 1))) (.one (.val (.cmp .isin (.var 0) (.evens (.var 2)))))))))
  .nil)⟩
def f_l_tried_i2 : Fn := ⟨["_law_three", "_law_name_here", "_law_tree"], ["_law_three", "_law_name_here", "_law_tree"],
  (.cons (.ret (.cmp .isin (.var 1) (.mcall (.var 2) "marks_of" (.cons (.var 0) .nil))))
  .nil)⟩
def f_l_tried_i3 : Fn := ⟨["_law_two", "_law_size", "_law_tree"], ["_law_two", "_law_size", "_law_tree"],
  (.cons (.ret (.cmp .gt (.len (.mcall (.var 2) "name_of" (.cons (.var 0) .nil))) (.var 1)))
  .nil)⟩
def f_l_tried_i4 : Fn := ⟨["_law_one", "_law_low", "_law_every"], ["_law_one", "_law_low", "_law_every"],
  (.cons (.ret (.cmp .le (.bin .mod (.var 0) (.var 2)) (.var 1)))
  .nil)⟩
def f_l_tried : Fn := ⟨["_law_tree", "_law_box", "_law_under_here", "_law_every", "_law_low", "_law_size", "_law_name_here", "_law_marked"], ["_law_tree", "_law_box", "_law_under_here", "_law_every", "_law_low", "_law_size", "_law_name_here", "_law_marked", "_law_tried_here"],
  (.cons (.set 8 (.lst (.cons (.callc "gathered" (.cons (.var 0) (.cons (.var 1) .nil)) "_law_tried@4" "_law_tried.<locals>.<lambda>" [4, 3]) .nil)))
  (.cons (.drop (.mth .append (.var 8) (.cons (.callc "gathered" (.cons (.var 0) (.cons (.var 1) .nil)) "_law_tried@3" "_law_tried.<locals>.<lambda>" [5, 0]) .nil)))
  (.cons (.drop (.mth .append (.var 8) (.cons (.callc "gathered" (.cons (.var 0) (.cons (.var 1) .nil)) "_law_tried@2" "_law_tried.<locals>.<lambda>" [6, 0]) .nil)))
  (.cons (.drop (.mth .append (.var 8) (.cons (.callc "gathered" (.cons (.var 0) (.cons (.var 1) .nil)) "_law_tried@1" "_law_tried.<locals>.<lambda>" [7, 2]) .nil)))
  (.cons (.drop (.mth .append (.var 8) (.cons (.callc "gathered" (.cons (.var 0) (.cons (.var 1) .nil)) "_law_tried@0" "_law_tried.<locals>.<lambda>" []) .nil)))
  (.cons (.ret (.var 8))
  .nil))))))⟩
def f_l_wanted : Fn := ⟨["_law_facts", "_law_under_here", "_law_every", "_law_low", "_law_size", "_law_marked"], ["_law_facts", "_law_under_here", "_law_every", "_law_low", "_law_size", "_law_marked", "_law_due", "_law_one"],
  (.cons (.set 6 (.lst (.cons (.comp [7] (.var 7) (.name 7) (.seq (.var 1)) (.some (.val (.cmp .le (.bin .mod (.var 7) (.var 2)) (.var 3))))) .nil)))
  (.cons (.drop (.mth .append (.var 6) (.cons (.comp [7] (.var 7) (.name 7) (.seq (.var 1)) (.some (.val (.cmp .gt (.len (.sub (.sub (.var 0) (.var 7)) (.int 1))) (.var 4))))) .nil)))
  (.cons (.drop (.mth .append (.var 6) (.cons (.comp [7] (.var 7) (.name 7) (.seq (.var 1)) (.some (.val (.cmp .isin (.var 7) (.var 5))))) .nil)))
  (.cons (.drop (.mth .append (.var 6) (.cons (.comp [7] (.var 7) (.name 7) (.seq (.var 1)) (.some (.or (.cons (.val (.cmp .isin (.var 7) (.var 5))) (.one (.val (.cmp .isin (.var 7) (.evens (.var 1))))))))) .nil)))
  (.cons (.drop (.mth .append (.var 6) (.cons (.var 1) .nil)))
  (.cons (.ret (.var 6))
  .nil))))))⟩
def f_law_i0 : Fn := ⟨["_law_six", "_law_low", "_law_every"], ["_law_six", "_law_low", "_law_every"],
  (.cons (.ret (.cmp .le (.bin .mod (.var 0) (.var 2)) (.var 1)))
  .nil)⟩
def f_law : Fn := ⟨["_law_script"], ["_law_script", "_law_name_here", "_law_tree", "_law_rows", "_law_facts", "_law_marked", "_law_k", "_law_cell_here", "_law_number", "_law_box", "_law_every", "_law_low", "_law_size", "_law_under_here", "_law_tried_here", "_law_due", "_law_again", "_law_one"],
  (.cons (.set 1 (.call "_law_name" (.cons (.call "_law_cell" (.cons (.var 0) (.cons (.int 0) .nil))) (.cons (.int 9) .nil))))
  (.cons (.set 2 (.make "Tree" (.cons (.var 1) .nil)))
  (.cons (.set 3 (.dsp (.cons (.int 0) (.cons (.lst .nil) .nil))))
  (.cons (.set 4 (.dsp (.cons (.int 0) (.cons (.tup (.cons .non (.cons (.var 1) .nil))) .nil))))
  (.cons (.set 5 (.lst .nil))
  (.cons (.for_ (.tup (.cons (.name 6) (.cons (.name 7) .nil))) (.enum (.slice (.var 0) (.some (.int 3)) (.some (.int 27)))) (.cons (.ite (.or (.cons (.val (.cmp .gt (.bin .mod (.call "_law_mix" (.cons (.var 7) (.cons (.bin .add (.int 900) (.var 6)) .nil))) (.int 4)) (.int 0))) (.one (.val (.cmp .lt (.len (.var 3)) (.int 3)))))) (.cons (.set 8 (.len (.var 3)))
  (.cons (.ite (.not (.val (.call "_law_put" (.cons (.var 2) (.cons (.var 3) (.cons (.var 4) (.cons (.var 8) (.cons (.var 7) (.cons (.var 6) .nil))))))))) (.cons (.ret (.bl false))
  .nil) .nil)
  (.cons (.ite (.val (.cmp .eq (.bin .mod (.var 7) (.int 3)) (.int 1))) (.cons (.drop (.mcall (.var 2) "mark" (.cons (.var 8) (.cons (.var 1) .nil))))
  (.cons (.drop (.mth .append (.var 5) (.cons (.var 8) .nil)))
  .nil)) .nil)
  .nil))) (.cons (.ite (.not (.val (.call "_law_moved" (.cons (.var 2) (.cons (.var 3) (.cons (.var 4) (.cons (.var 7) (.cons (.bin .add (.int 40) (.var 6)) .nil)))))))) (.cons (.ret (.bl false))
  .nil) .nil)
  .nil))
  .nil))
  (.cons (.set 9 (.bin .mod (.call "_law_mix" (.cons (.call "_law_cell" (.cons (.var 0) (.cons (.int 1) .nil))) (.cons (.int 1) .nil))) (.len (.var 3))))
  (.cons (.set 10 (.bin .add (.int 2) (.bin .mod (.call "_law_cell" (.cons (.var 0) (.cons (.int 1) .nil))) (.int 5))))
  (.cons (.set 11 (.bin .mod (.call "_law_cell" (.cons (.var 0) (.cons (.int 2) .nil))) (.var 10)))
  (.cons (.set 12 (.bin .mod (.call "_law_cell" (.cons (.var 0) (.cons (.int 2) .nil))) (.int 9)))
  (.cons (.set 13 (.call "_law_under" (.cons (.var 3) (.cons (.var 9) .nil))))
  (.cons (.set 14 (.call "_law_tried" (.cons (.var 2) (.cons (.var 9) (.cons (.var 13) (.cons (.var 10) (.cons (.var 11) (.cons (.var 12) (.cons (.var 1) (.cons (.var 5) .nil))))))))))
  (.cons (.set 15 (.call "_law_wanted" (.cons (.var 4) (.cons (.var 13) (.cons (.var 10) (.cons (.var 11) (.cons (.var 12) (.cons (.var 5) .nil))))))))
  (.cons (.for_ (.name 6) (.range1 (.int 5)) (.cons (.ite (.not (.val (.call "_law_same_row" (.cons (.sub (.var 14) (.var 6)) (.cons (.sub (.var 15) (.var 6)) .nil))))) (.cons (.ret (.bl false))
  .nil) .nil)
  .nil))
  (.cons (.ite (.not (.val (.call "_law_put" (.cons (.var 2) (.cons (.var 3) (.cons (.var 4) (.cons (.len (.var 3)) (.cons (.call "_law_cell" (.cons (.var 0) (.cons (.int 1) .nil))) (.cons (.int 99) .nil))))))))) (.cons (.ret (.bl false))
  .nil) .nil)
  (.cons (.set 16 (.callc "gathered" (.cons (.var 2) (.cons (.var 9) .nil)) "law@0" "law.<locals>.<lambda>" [11, 10]))
  (.cons (.ite (.not (.val (.call "_law_same_row" (.cons (.var 16) (.cons (.comp [17] (.var 17) (.name 17) (.seq (.call "_law_under" (.cons (.var 3) (.cons (.var 9) .nil)))) (.some (.val (.cmp .le (.bin .mod (.var 17) (.var 10)) (.var 11))))) .nil))))) (.cons (.ret (.bl false))
  .nil) .nil)
  (.cons (.ret (.tst (.and (.cons (.val (.call "_law_missing" (.cons (.var 2) (.cons (.len (.var 3)) .nil)))) (.one (.val (.call "_law_missing" (.cons (.var 2) (.cons (.bin .sub (.neg (.int 1)) (.bin .mod (.call "_law_cell" (.cons (.var 0) (.cons (.int 0) .nil))) (.bin .pow (.int 10) (.int 29)))) .nil)))))))))
  .nil))))))))))))))))))⟩
def f_Box_init : Fn := ⟨["self", "name", "holder", "deep"], ["self", "name", "holder", "deep"],
  (.cons (.setFld (.var 0) "name" (.var 1))
  (.cons (.setFld (.var 0) "holder" (.var 2))
  (.cons (.setFld (.var 0) "deep" (.var 3))
  (.cons (.setFld (.var 0) "row" (.lst .nil))
  (.cons (.setFld (.var 0) "marks" (.dsp .nil))
  (.cons (.setFld (.var 0) "words" (.lst .nil))
  (.cons (.setFld (.var 0) "own" (.tup .nil))
  .nil)))))))⟩
def f_Tree_init : Fn := ⟨["self", "name"], ["self", "name"],
  (.cons (.ite (.not (.val (.call "is_name" (.cons (.var 1) .nil)))) (.cons (.raise "NoName")
  .nil) .nil)
  (.cons (.setFld (.var 0) "standing" (.dsp (.cons (.int 0) (.cons (.make "Box" (.cons (.var 1) (.cons .non (.cons (.int 0) .nil)))) .nil))))
  (.cons (.setFld (.var 0) "coming" (.int 1))
  .nil)))⟩
def f_Tree_found : Fn := ⟨["self", "box"], ["self", "box"],
  (.cons (.ite (.val (.cmp .notin (.var 1) (.fld (.var 0) "standing"))) (.cons (.raise "NoBox")
  .nil) .nil)
  (.cons (.ret (.sub (.fld (.var 0) "standing") (.var 1)))
  .nil))⟩
def f_Tree_with_all : Fn := ⟨["self", "box"], ["self", "box", "told", "todo", "one"],
  (.cons (.set 2 (.lst .nil))
  (.cons (.set 3 (.lst (.cons (.var 1) .nil)))
  (.cons (.whil (.val (.var 3)) (.cons (.set 4 (.mth .pop (.var 3) .nil))
  (.cons (.drop (.mth .append (.var 2) (.cons (.var 4) .nil)))
  (.cons (.drop (.mth .extend (.var 3) (.cons (.lrev (.fld (.mcall (.var 0) "found" (.cons (.var 4) .nil)) "row")) .nil)))
  .nil))))
  (.cons (.ret (.var 2))
  .nil))))⟩
def f_Tree_put : Fn := ⟨["self", "holder", "place", "name"], ["self", "holder", "place", "name", "above", "number"],
  (.cons (.set 4 (.mcall (.var 0) "found" (.cons (.var 1) .nil)))
  (.cons (.ite (.not (.val (.chain .le .le (.int 0) (.var 2) (.len (.fld (.var 4) "row"))))) (.cons (.raise "NoPlace")
  .nil) .nil)
  (.cons (.ite (.not (.val (.call "is_name" (.cons (.var 3) .nil)))) (.cons (.raise "NoName")
  .nil) .nil)
  (.cons (.ite (.or (.cons (.val (.cmp .ge (.len (.fld (.var 0) "standing")) (.glob "MOST_BOXES"))) (.one (.val (.cmp .ge (.fld (.var 4) "deep") (.glob "MOST_DEEP")))))) (.cons (.raise "TooMuch")
  .nil) .nil)
  (.cons (.set 5 (.fld (.var 0) "coming"))
  (.cons (.setFld (.var 0) "coming" (.bin .add (.var 5) (.int 1)))
  (.cons (.setSub (.fld (.var 0) "standing") (.var 5) (.make "Box" (.cons (.var 3) (.cons (.var 1) (.cons (.bin .add (.fld (.var 4) "deep") (.int 1)) .nil)))))
  (.cons (.drop (.mth .insert (.fld (.var 4) "row") (.cons (.var 2) (.cons (.var 5) .nil))))
  (.cons (.ret (.var 5))
  .nil)))))))))⟩
def f_Tree_cut : Fn := ⟨["self", "box"], ["self", "box", "gone", "one"],
  (.cons (.set 2 (.mcall (.var 0) "with_all" (.cons (.var 1) .nil)))
  (.cons (.ite (.val (.cmp .eq (.var 1) (.int 0))) (.cons (.raise "Rooted")
  .nil) .nil)
  (.cons (.drop (.mth .remove (.fld (.mcall (.var 0) "found" (.cons (.fld (.mcall (.var 0) "found" (.cons (.var 1) .nil)) "holder") .nil)) "row") (.cons (.var 1) .nil)))
  (.cons (.for_ (.name 3) (.seq (.var 2)) (.cons (.drop (.dpop1 (.fld (.var 0) "standing") (.var 3)))
  .nil))
  (.cons (.ret (.var 2))
  .nil)))))⟩
def f_Tree_move : Fn := ⟨["self", "box", "holder", "place"], ["self", "box", "holder", "place", "mine", "above", "under", "rest", "one", "lower", "moved"],
  (.cons (.set 4 (.mcall (.var 0) "found" (.cons (.var 1) .nil)))
  (.cons (.set 5 (.mcall (.var 0) "found" (.cons (.var 2) .nil)))
  (.cons (.set 6 (.mcall (.var 0) "with_all" (.cons (.var 1) .nil)))
  (.cons (.ite (.or (.cons (.val (.cmp .eq (.var 1) (.int 0))) (.one (.val (.cmp .isin (.var 2) (.var 6)))))) (.cons (.raise "Rooted")
  .nil) .nil)
  (.cons (.setC 7 [8] (.var 8) (.name 8) (.seq (.fld (.var 5) "row")) (.some (.val (.cmp .ne (.var 8) (.var 1)))))
  (.cons (.ite (.not (.val (.chain .le .le (.int 0) (.var 3) (.len (.var 7))))) (.cons (.raise "NoPlace")
  .nil) .nil)
  (.cons (.set 9 (.bin .sub (.bin .add (.fld (.var 5) "deep") (.int 1)) (.fld (.var 4) "deep")))
  (.cons (.ite (.val (.cmp .gt (.bin .add (.blt .max1 (.cons (.comp [8] (.fld (.mcall (.var 0) "found" (.cons (.var 8) .nil)) "deep") (.name 8) (.seq (.var 6)) .none) .nil)) (.var 9)) (.glob "MOST_DEEP"))) (.cons (.raise "TooMuch")
  .nil) .nil)
  (.cons (.drop (.mth .insert (.var 7) (.cons (.var 3) (.cons (.var 1) .nil))))
  (.cons (.ite (.val (.cmp .eq (.var 7) (.fld (.var 5) "row"))) (.cons (.ret (.bl false))
  .nil) .nil)
  (.cons (.drop (.mth .remove (.fld (.mcall (.var 0) "found" (.cons (.fld (.var 4) "holder") .nil)) "row") (.cons (.var 1) .nil)))
  (.cons (.setFld (.var 5) "row" (.var 7))
  (.cons (.setFld (.var 4) "holder" (.var 2))
  (.cons (.for_ (.name 8) (.seq (.var 6)) (.cons (.set 10 (.mcall (.var 0) "found" (.cons (.var 8) .nil)))
  (.cons (.augFld (.var 10) "deep" .add (.var 9))
  .nil)))
  (.cons (.ret (.bl true))
  .nil)))))))))))))))⟩
def f_Tree_mark : Fn := ⟨["self", "box", "word"], ["self", "box", "word", "mine"],
  (.cons (.set 3 (.mcall (.var 0) "found" (.cons (.var 1) .nil)))
  (.cons (.ite (.not (.val (.call "is_name" (.cons (.var 2) .nil)))) (.cons (.raise "NoName")
  .nil) .nil)
  (.cons (.ite (.val (.cmp .isin (.var 2) (.fld (.var 3) "marks"))) (.cons (.ret (.bl false))
  .nil) .nil)
  (.cons (.setSub (.fld (.var 3) "marks") (.var 2) (.bl true))
  (.cons (.ret (.bl true))
  .nil)))))⟩
def f_Tree_bare : Fn := ⟨["self", "box", "word"], ["self", "box", "word"],
  (.cons (.drop (.call "_wall" (.cons (.int 0) .nil)))
  .nil)⟩
def f_Tree_write : Fn := ⟨["self", "box", "words"], ["self", "box", "words", "mine"],
  (.cons (.set 3 (.mcall (.var 0) "found" (.cons (.var 1) .nil)))
  (.cons (.ite (.val (.cmp .eq (.fld (.var 3) "words") (.var 2))) (.cons (.ret (.bl false))
  .nil) .nil)
  (.cons (.setFld (.var 3) "words" (.blt .list (.cons (.var 2) .nil)))
  (.cons (.ret (.bl true))
  .nil))))⟩
def f_Tree_dress : Fn := ⟨["self", "box", "rows"], ["self", "box", "rows"],
  (.cons (.drop (.call "_wall" (.cons (.int 1) .nil)))
  .nil)⟩
def f_Tree_stands : Fn := ⟨["self", "box"], ["self", "box"],
  (.cons (.ret (.cmp .isin (.var 1) (.fld (.var 0) "standing")))
  .nil)⟩
def f_Tree_name_of : Fn := ⟨["self", "box"], ["self", "box"],
  (.cons (.ret (.fld (.mcall (.var 0) "found" (.cons (.var 1) .nil)) "name"))
  .nil)⟩
def f_Tree_marks_of : Fn := ⟨["self", "box"], ["self", "box"],
  (.cons (.ret (.blt .sorted (.cons (.fld (.mcall (.var 0) "found" (.cons (.var 1) .nil)) "marks") .nil)))
  .nil)⟩
def f_Tree_words_of : Fn := ⟨["self", "box"], ["self", "box"],
  (.cons (.drop (.call "_wall" (.cons (.int 2) .nil)))
  .nil)⟩
def f_Tree_rows_of : Fn := ⟨["self", "box"], ["self", "box"],
  (.cons (.drop (.call "_wall" (.cons (.int 3) .nil)))
  .nil)⟩
def f_Tree_holder_of : Fn := ⟨["self", "box"], ["self", "box"],
  (.cons (.drop (.call "_wall" (.cons (.int 4) .nil)))
  .nil)⟩
def f_Tree_boxes_of : Fn := ⟨["self", "box"], ["self", "box"],
  (.cons (.ret (.blt .list (.cons (.fld (.mcall (.var 0) "found" (.cons (.var 1) .nil)) "row") .nil)))
  .nil)⟩
end Hd
open Hd (f_law)
namespace Hd
open PySem AM
def T : Tab := ⟨(("_wall", f__wall) :: ("beneath", f_beneath) :: ("gathered", f_gathered) :: ("is_name", f_is_name) :: ("_law_cell", f_l_cell) :: ("_law_mix", f_l_mix) :: ("_law_name", f_l_name) :: ("_law_whole", f_l_whole) :: ("_law_same_row", f_l_same_row) :: ("_law_under", f_l_under) :: ("_law_deep", f_l_deep) :: ("_law_put", f_l_put) :: ("_law_moved", f_l_moved) :: ("_law_missing", f_l_missing) :: ("_law_tried", f_l_tried) :: ("_law_wanted", f_l_wanted) :: ("law", f_law) :: ("Box.__init__", f_Box_init) :: ("Tree.__init__", f_Tree_init) :: ("Tree.found", f_Tree_found) :: ("Tree.with_all", f_Tree_with_all) :: ("Tree.put", f_Tree_put) :: ("Tree.cut", f_Tree_cut) :: ("Tree.move", f_Tree_move) :: ("Tree.mark", f_Tree_mark) :: ("Tree.bare", f_Tree_bare) :: ("Tree.write", f_Tree_write) :: ("Tree.dress", f_Tree_dress) :: ("Tree.stands", f_Tree_stands) :: ("Tree.name_of", f_Tree_name_of) :: ("Tree.marks_of", f_Tree_marks_of) :: ("Tree.words_of", f_Tree_words_of) :: ("Tree.rows_of", f_Tree_rows_of) :: ("Tree.holder_of", f_Tree_holder_of) :: ("Tree.boxes_of", f_Tree_boxes_of) :: ("_law_missing@0", f_l_missing_i0) :: ("_law_tried@0", f_l_tried_i0) :: ("_law_tried@1", f_l_tried_i1) :: ("_law_tried@2", f_l_tried_i2) :: ("_law_tried@3", f_l_tried_i3) :: ("_law_tried@4", f_l_tried_i4) :: ("law@0", f_law_i0) :: []), [("Tree", "found", "Tree.found"), ("Tree", "with_all", "Tree.with_all"), ("Tree", "put", "Tree.put"), ("Tree", "cut", "Tree.cut"), ("Tree", "move", "Tree.move"), ("Tree", "mark", "Tree.mark"), ("Tree", "bare", "Tree.bare"), ("Tree", "write", "Tree.write"), ("Tree", "dress", "Tree.dress"), ("Tree", "stands", "Tree.stands"), ("Tree", "name_of", "Tree.name_of"), ("Tree", "marks_of", "Tree.marks_of"), ("Tree", "words_of", "Tree.words_of"), ("Tree", "rows_of", "Tree.rows_of"), ("Tree", "holder_of", "Tree.holder_of"), ("Tree", "boxes_of", "Tree.boxes_of")], [("Box", "name"), ("Box", "holder"), ("Box", "deep"), ("Box", "row"), ("Box", "marks"), ("Box", "words"), ("Box", "own"), ("Tree", "standing"), ("Tree", "coming")], [("Box", some "Box.__init__"), ("Tree", some "Tree.__init__")], [("LETTERS", .str "abcdefghijklmnopqrstuvwxyz"), ("MOST_BOXES", .int 90), ("MOST_DEEP", .int 12)], [], [], [("NoName", "NoBox", false), ("NoBox", "NoBox", true), ("NoPlace", "NoBox", false), ("TooMuch", "NoBox", false), ("Rooted", "NoBox", false)], []⟩
end Hd
end

section
set_option linter.all false
set_option maxRecDepth 100000
set_option maxHeartbeats 4000000
/-! A law's tables for names, pools, traits. -/
open PySem
namespace AM
section
variable {C : Orc} {Γ : Env} {S : Sto} {P : PV} {E : PX}
theorem W_dpop1 {o k} : W C (.dpop1 o k) Γ S P E = W C o Γ S (fun x S1 => isD S1 x ∧ W C k Γ S1 (fun y S2 => ∃ n, x = .loc n ∧ ∃ kvs, S2[n]? = some (.dct kvs) ∧ ∃ kk, keyV y = some kk ∧ ∃ v, dget kvs kk = some v ∧ P v (S2.set n (.dct (ddrop kvs kk)))) E) E := rfl
theorem m_remove {k x} : wMth .remove (.loc k) [.int x] S P = ∃ (ns : List Int) (j : Nat), S[k]? = some (.lst (ns.map Va.int)) ∧ ns[j]? = some x ∧ (∀ m : Nat, m < j → ns[m]? ≠ some x) ∧ P .non (S.set k (.lst ((ns.eraseIdx j).map Va.int))) := rfl
theorem isD_loc {k kvs} (h : S[k]? = some (.dct kvs)) : isD S (.loc k) := ⟨kvs, .inr ⟨k, rfl, h⟩⟩
end
/-- a try: how its body is left, then its suite -/
theorem try_cut {C : Orc} (hC : OrcMono C) {b : Sms} {x : Str} {o : Option Nat} {su : Sms} {D : AEnds} {Γ : Env} {S : Sto} (Q : Str → Env → Sto → Prop) (h1 : WSs C b { D with ex := Q } Γ S)
    (h2 : ∀ c Γ' S', Q c Γ' S' → ∃ kk, C.xk c x = some kk ∧ if kk = true then ∀ a, WSs { C with cur := some (a, c) } su (offD o D) (onE o a Γ') S' else D.ex c Γ' S') : WS C (.try_ b x o su) D Γ S := by
  rw [WS_try]
  exact WSs_mono hC b { D with ex := Q } { D with ex := fun c Γ' S' => ∃ kk, C.xk c x = some kk ∧ if kk = true then ∀ a, WSs { C with cur := some (a, c) } su (offD o D) (onE o a Γ') S' else D.ex c Γ' S' } Γ S ⟨fun _ _ z => z, fun _ _ z => z, fun _ _ z => z, fun _ _ z => z, fun c Γ' S' z => h2 c Γ' S' z⟩ h1
end AM
namespace TV
open PySem AM NM
local macro_rules | `(tactic| walk_at "am") => `(tactic| try simp only [st_set0, st_setS, iteTrue, iteFalse, iteDec, iteNDec, exSome, exBl, W_var, W_int, W_bl, W_non, W_str, W_tup, W_lst, W_bin, W_neg, W_cmp, W_isN, W_notN, W_lrev, W_maxd, W_sortk, wIsb, wNisb, W_chain, W_chain3, W_tst, W_ite, W_call, W_len, W_abs, W_isi, W_sub, WT_val, WT_not, WT_and, WT_or, WA_one, WA_cons, WO_one, WO_cons, WB_val, WB_not, WB_and, WB_or, WBA_one, WBA_cons, WBO_one, WBO_cons, WL_nil, WL_cons, WS_set, WS_ret, WS_retN, WS_pass, WS_brk, WS_cont, WS_drop, WS_ite, WS_raise, WSs_nil, Ss_set, Ss_ret, Ss_retN, Ss_pass, Ss_brk, Ss_cont, Ss_drop, Ss_raise, Ss_ite_ret, Ss_ite_retN, Ss_ite_raise, Ss_ite_cont, Ss_ite_brk, Ss_ite_last, gt_0, gt_S, wAdd_int, wSub_int, wMul_int, wMul_rep, wMul_str, wDiv_int, wMod_int, wPow_int, wAdd_str, wNeg_int, wAbs_int, wLt_int, wLe_int, wGt_int, wGe_int, wEq_int, wNe_int, wEq_bl, wNe_bl, wEq_str, wNe_str, wLen_tup, wLen_lst, tru_bl, tru_int, ty_int_int, ty_int_bool, ty_int_str, ty_int_tuple, ty_int_list, ty_int_dict, ty_bl_int, ty_bl_bool, ty_bl_str, ty_bl_tuple, ty_bl_list, ty_bl_dict, ty_str_int, ty_str_bool, ty_str_str, ty_str_tuple, ty_str_list, ty_str_dict, ty_tup_int, ty_tup_bool, ty_tup_str, ty_tup_tuple, ty_tup_list, ty_tup_dict, ty_lst_int, ty_lst_bool, ty_lst_str, ty_lst_tuple, ty_lst_list, ty_lst_dict, ty_dct_int, ty_dct_bool, ty_dct_str, ty_dct_tuple, ty_dct_list, ty_dct_dict, ty_non, sub_tup0, sub_tup1, sub_tup2, sub_tup3, sub_tup4, sub_tup5, sub_lst0, sub_lst1, sub_lst2, sub_lst3, sub_lst4, sub_lst5, startA, List.map_cons, List.map_nil, List.length_cons, List.length_nil, List.replicate, List.cons_append, List.nil_append, true_and, and_true, ne_eq, isNon, Bool.not_true, Bool.not_false, Bool.true_or, Bool.or_true, Bool.false_or, reduceIte, Nat.reduceAdd, Nat.zero_add, Int.cast_ofNat_Int, Int.reduceEq, Int.reduceLT, Int.reduceLE, Nat.reduceLeDiff, decide_true, decide_false, not_true_eq_false, not_false_eq_true, Nat.reduceSub, Int.reduceToNat, W_slice, W_blt, W_mth, W_comp, WOe_none, WOe_some, WI_seq, WI_keys, WI_items, WI_range1, WI_range2, WI_enum, WI_zip, WI_rev, WI_revr, WI_rangeD, WT0_none, WT0_some, Ss_asg, Ss_setSub, Ss_aug, WS_asg, WS_aug, WS_for, WS_setC, bT_name, bT_tup, bT_lst, bTs_nil, bTs_name, seq_lst, seq_tup, seq_scr, seq_str, seq_loc, en_tup, en_lst, en_scr, en_loc, lst_lst, lst_scr, lst_loc, exInt, exLoc, exLst, exLst1, exLV_lst, exLV_loc, mOk_app, mOk_pop, mOk_ext, mOk_ins, mOk_ind, mOk_join, mOk_indl, m_append, m_pop, m_extend, m_insert, m_join, b_listL, b_listT, b_listS, b_listK, b_tupL, b_tupT, b_tupK, b_max2, b_min2, b_ord, b_str, sl_lst, sl_loc, sl_scr, sl_tupE, sl_strE, cat_lst, cat_loc, cat_tup, wLen_scr, wLen_loc, wLen_str, wSub_scr, wSub_loc, wSub_str, aug_add, aug_sub, tru_lst, tru_tup, tru_non, ty_scr_list, sg_p0, sg_pl, ss_p0, ss_pl, ob_set0, ob_set1, ob_set2, ob_set3, ob_g0, ob_g1, ob_g2, ob_g3, List.append_assoc, List.length_append, List.nil_append, Nat.add_zero, Nat.add_assoc, Int.reduceNeg, wipeA, orc_run, orc_glob, orc_init, orc_isa, orc_gdct, W_isc, W_isE, W_isEt, orc_xk, m_upper, m_partition, m_split, m_endswith, m_find, mOk_upper, mOk_partition, mOk_split, mOk_endswith, mOk_find, b_intB, W_glob, W_gget, W_fld, W_mcall, W_make, W_make0, W_dsp, Ss_setFld, subO_l, subO_d, subO_k, lenO_l, lenO_d, listO_l, listO_d, putO_l, keyV_int, keyV_str, wIn_str, wNotin_str, mapSome, at_0, at_1, at_2, at_3, at_4, at_5, ix_1_0, ix_2_0, ix_2_1, ix_3_0, ix_3_1, ix_3_2, ix_4_0, ix_4_1, ix_4_2, ix_4_3, va_s0, va_s1, va_s2, va_s3])
local macro_rules | `(tactic| walk_at "if") => `(tactic| (try simp only []); rw [Ss_ite]; simp only [st_set0, st_setS, iteTrue, iteFalse, iteDec, iteNDec, exSome, exBl, W_var, W_int, W_bl, W_non, W_str, W_tup, W_lst, W_bin, W_neg, W_cmp, W_isN, W_notN, W_lrev, W_maxd, W_sortk, wIsb, wNisb, W_chain, W_chain3, W_tst, W_ite, W_call, W_len, W_abs, W_isi, W_sub, WT_val, WT_not, WT_and, WT_or, WA_one, WA_cons, WO_one, WO_cons, WB_val, WB_not, WB_and, WB_or, WBA_one, WBA_cons, WBO_one, WBO_cons, WL_nil, WL_cons, WS_set, WS_ret, WS_retN, WS_pass, WS_brk, WS_cont, WS_drop, WS_ite, WS_raise, WSs_nil, Ss_set, Ss_ret, Ss_retN, Ss_pass, Ss_brk, Ss_cont, Ss_drop, Ss_raise, Ss_ite_ret, Ss_ite_retN, Ss_ite_raise, Ss_ite_cont, Ss_ite_brk, Ss_ite_last, gt_0, gt_S, wAdd_int, wSub_int, wMul_int, wMul_rep, wMul_str, wDiv_int, wMod_int, wPow_int, wAdd_str, wNeg_int, wAbs_int, wLt_int, wLe_int, wGt_int, wGe_int, wEq_int, wNe_int, wEq_bl, wNe_bl, wEq_str, wNe_str, wLen_tup, wLen_lst, tru_bl, tru_int, ty_int_int, ty_int_bool, ty_int_str, ty_int_tuple, ty_int_list, ty_int_dict, ty_bl_int, ty_bl_bool, ty_bl_str, ty_bl_tuple, ty_bl_list, ty_bl_dict, ty_str_int, ty_str_bool, ty_str_str, ty_str_tuple, ty_str_list, ty_str_dict, ty_tup_int, ty_tup_bool, ty_tup_str, ty_tup_tuple, ty_tup_list, ty_tup_dict, ty_lst_int, ty_lst_bool, ty_lst_str, ty_lst_tuple, ty_lst_list, ty_lst_dict, ty_dct_int, ty_dct_bool, ty_dct_str, ty_dct_tuple, ty_dct_list, ty_dct_dict, ty_non, sub_tup0, sub_tup1, sub_tup2, sub_tup3, sub_tup4, sub_tup5, sub_lst0, sub_lst1, sub_lst2, sub_lst3, sub_lst4, sub_lst5, startA, List.map_cons, List.map_nil, List.length_cons, List.length_nil, List.replicate, List.cons_append, List.nil_append, true_and, and_true, ne_eq, isNon, Bool.not_true, Bool.not_false, Bool.true_or, Bool.or_true, Bool.false_or, reduceIte, Nat.reduceAdd, Nat.zero_add, Int.cast_ofNat_Int, Int.reduceEq, Int.reduceLT, Int.reduceLE, Nat.reduceLeDiff, decide_true, decide_false, not_true_eq_false, not_false_eq_true, Nat.reduceSub, Int.reduceToNat, W_slice, W_blt, W_mth, W_comp, WOe_none, WOe_some, WI_seq, WI_keys, WI_items, WI_range1, WI_range2, WI_enum, WI_zip, WI_rev, WI_revr, WI_rangeD, WT0_none, WT0_some, Ss_asg, Ss_setSub, Ss_aug, WS_asg, WS_aug, WS_for, WS_setC, bT_name, bT_tup, bT_lst, bTs_nil, bTs_name, seq_lst, seq_tup, seq_scr, seq_str, seq_loc, en_tup, en_lst, en_scr, en_loc, lst_lst, lst_scr, lst_loc, exInt, exLoc, exLst, exLst1, exLV_lst, exLV_loc, mOk_app, mOk_pop, mOk_ext, mOk_ins, mOk_ind, mOk_join, mOk_indl, m_append, m_pop, m_extend, m_insert, m_join, b_listL, b_listT, b_listS, b_listK, b_tupL, b_tupT, b_tupK, b_max2, b_min2, b_ord, b_str, sl_lst, sl_loc, sl_scr, sl_tupE, sl_strE, cat_lst, cat_loc, cat_tup, wLen_scr, wLen_loc, wLen_str, wSub_scr, wSub_loc, wSub_str, aug_add, aug_sub, tru_lst, tru_tup, tru_non, ty_scr_list, sg_p0, sg_pl, ss_p0, ss_pl, ob_set0, ob_set1, ob_set2, ob_set3, ob_g0, ob_g1, ob_g2, ob_g3, List.append_assoc, List.length_append, List.nil_append, Nat.add_zero, Nat.add_assoc, Int.reduceNeg, wipeA, orc_run, orc_glob, orc_init, orc_isa, orc_gdct, W_isc, W_isE, W_isEt, orc_xk, m_upper, m_partition, m_split, m_endswith, m_find, mOk_upper, mOk_partition, mOk_split, mOk_endswith, mOk_find, b_intB, W_glob, W_gget, W_fld, W_mcall, W_make, W_make0, W_dsp, Ss_setFld, subO_l, subO_d, subO_k, lenO_l, lenO_d, listO_l, listO_d, putO_l, keyV_int, keyV_str, wIn_str, wNotin_str, mapSome, at_0, at_1, at_2, at_3, at_4, at_5, ix_1_0, ix_2_0, ix_2_1, ix_3_0, ix_3_1, ix_3_2, ix_4_0, ix_4_1, ix_4_2, ix_4_3, va_s0, va_s1, va_s2, va_s3])
end TV
namespace TR
open PySem AM NM
local macro_rules | `(tactic| walk_at "am") => `(tactic| try simp only [st_set0, st_setS, iteTrue, iteFalse, iteDec, iteNDec, exSome, exBl, W_var, W_int, W_bl, W_non, W_str, W_tup, W_lst, W_bin, W_neg, W_cmp, W_isN, W_notN, W_lrev, W_maxd, W_sortk, wIsb, wNisb, W_chain, W_chain3, W_tst, W_ite, W_call, W_len, W_abs, W_isi, W_sub, WT_val, WT_not, WT_and, WT_or, WA_one, WA_cons, WO_one, WO_cons, WB_val, WB_not, WB_and, WB_or, WBA_one, WBA_cons, WBO_one, WBO_cons, WL_nil, WL_cons, WS_set, WS_ret, WS_retN, WS_pass, WS_brk, WS_cont, WS_drop, WS_ite, WS_raise, WSs_nil, Ss_set, Ss_ret, Ss_retN, Ss_pass, Ss_brk, Ss_cont, Ss_drop, Ss_raise, Ss_ite_ret, Ss_ite_retN, Ss_ite_raise, Ss_ite_cont, Ss_ite_brk, Ss_ite_last, gt_0, gt_S, wAdd_int, wSub_int, wMul_int, wMul_rep, wMul_str, wDiv_int, wMod_int, wPow_int, wAdd_str, wNeg_int, wAbs_int, wLt_int, wLe_int, wGt_int, wGe_int, wEq_int, wNe_int, wEq_bl, wNe_bl, wEq_str, wNe_str, wLen_tup, wLen_lst, tru_bl, tru_int, ty_int_int, ty_int_bool, ty_int_str, ty_int_tuple, ty_int_list, ty_int_dict, ty_bl_int, ty_bl_bool, ty_bl_str, ty_bl_tuple, ty_bl_list, ty_bl_dict, ty_str_int, ty_str_bool, ty_str_str, ty_str_tuple, ty_str_list, ty_str_dict, ty_tup_int, ty_tup_bool, ty_tup_str, ty_tup_tuple, ty_tup_list, ty_tup_dict, ty_lst_int, ty_lst_bool, ty_lst_str, ty_lst_tuple, ty_lst_list, ty_lst_dict, ty_dct_int, ty_dct_bool, ty_dct_str, ty_dct_tuple, ty_dct_list, ty_dct_dict, ty_non, sub_tup0, sub_tup1, sub_tup2, sub_tup3, sub_tup4, sub_tup5, sub_lst0, sub_lst1, sub_lst2, sub_lst3, sub_lst4, sub_lst5, startA, List.map_cons, List.map_nil, List.length_cons, List.length_nil, List.replicate, List.cons_append, List.nil_append, true_and, and_true, ne_eq, isNon, Bool.not_true, Bool.not_false, Bool.true_or, Bool.or_true, Bool.false_or, reduceIte, Nat.reduceAdd, Nat.zero_add, Int.cast_ofNat_Int, Int.reduceEq, Int.reduceLT, Int.reduceLE, Nat.reduceLeDiff, decide_true, decide_false, not_true_eq_false, not_false_eq_true, Nat.reduceSub, Int.reduceToNat, W_slice, W_blt, W_mth, W_comp, WOe_none, WOe_some, WI_seq, WI_keys, WI_items, WI_range1, WI_range2, WI_enum, WI_zip, WI_rev, WI_revr, WI_rangeD, WT0_none, WT0_some, Ss_asg, Ss_setSub, Ss_aug, WS_asg, WS_aug, WS_for, WS_setC, bT_name, bT_tup, bT_lst, bTs_nil, bTs_name, seq_lst, seq_tup, seq_scr, seq_str, seq_loc, en_tup, en_lst, en_scr, en_loc, lst_lst, lst_scr, lst_loc, exInt, exLoc, exLst, exLst1, exLV_lst, exLV_loc, mOk_app, mOk_pop, mOk_ext, mOk_ins, mOk_ind, mOk_join, mOk_indl, m_append, m_pop, m_extend, m_insert, m_join, b_listL, b_listT, b_listS, b_listK, b_tupL, b_tupT, b_tupK, b_max2, b_min2, b_ord, b_str, sl_lst, sl_loc, sl_scr, sl_tupE, sl_strE, cat_lst, cat_loc, cat_tup, wLen_scr, wLen_loc, wLen_str, wSub_scr, wSub_loc, wSub_str, aug_add, aug_sub, tru_lst, tru_tup, tru_non, ty_scr_list, sg_p0, sg_pl, ss_p0, ss_pl, ob_set0, ob_set1, ob_set2, ob_set3, ob_g0, ob_g1, ob_g2, ob_g3, List.append_assoc, List.length_append, List.nil_append, Nat.add_zero, Nat.add_assoc, Int.reduceNeg, wipeA, orc_run, orc_glob, orc_init, orc_isa, orc_gdct, W_isc, W_isE, W_isEt, orc_xk, m_upper, m_partition, m_split, m_endswith, m_find, mOk_upper, mOk_partition, mOk_split, mOk_endswith, mOk_find, b_intB, W_glob, W_gget, W_fld, W_mcall, W_make, W_make0, W_dsp, Ss_setFld, subO_l, subO_d, subO_k, lenO_l, lenO_d, listO_l, listO_d, putO_l, keyV_int, keyV_str, wIn_str, wNotin_str, mapSome, at_0, at_1, at_2, at_3, at_4, at_5, ix_1_0, ix_2_0, ix_2_1, ix_3_0, ix_3_1, ix_3_2, ix_4_0, ix_4_1, ix_4_2, ix_4_3, va_s0, va_s1, va_s2, va_s3])
local macro_rules | `(tactic| walk_at "if") => `(tactic| (try simp only []); rw [Ss_ite]; simp only [st_set0, st_setS, iteTrue, iteFalse, iteDec, iteNDec, exSome, exBl, W_var, W_int, W_bl, W_non, W_str, W_tup, W_lst, W_bin, W_neg, W_cmp, W_isN, W_notN, W_lrev, W_maxd, W_sortk, wIsb, wNisb, W_chain, W_chain3, W_tst, W_ite, W_call, W_len, W_abs, W_isi, W_sub, WT_val, WT_not, WT_and, WT_or, WA_one, WA_cons, WO_one, WO_cons, WB_val, WB_not, WB_and, WB_or, WBA_one, WBA_cons, WBO_one, WBO_cons, WL_nil, WL_cons, WS_set, WS_ret, WS_retN, WS_pass, WS_brk, WS_cont, WS_drop, WS_ite, WS_raise, WSs_nil, Ss_set, Ss_ret, Ss_retN, Ss_pass, Ss_brk, Ss_cont, Ss_drop, Ss_raise, Ss_ite_ret, Ss_ite_retN, Ss_ite_raise, Ss_ite_cont, Ss_ite_brk, Ss_ite_last, gt_0, gt_S, wAdd_int, wSub_int, wMul_int, wMul_rep, wMul_str, wDiv_int, wMod_int, wPow_int, wAdd_str, wNeg_int, wAbs_int, wLt_int, wLe_int, wGt_int, wGe_int, wEq_int, wNe_int, wEq_bl, wNe_bl, wEq_str, wNe_str, wLen_tup, wLen_lst, tru_bl, tru_int, ty_int_int, ty_int_bool, ty_int_str, ty_int_tuple, ty_int_list, ty_int_dict, ty_bl_int, ty_bl_bool, ty_bl_str, ty_bl_tuple, ty_bl_list, ty_bl_dict, ty_str_int, ty_str_bool, ty_str_str, ty_str_tuple, ty_str_list, ty_str_dict, ty_tup_int, ty_tup_bool, ty_tup_str, ty_tup_tuple, ty_tup_list, ty_tup_dict, ty_lst_int, ty_lst_bool, ty_lst_str, ty_lst_tuple, ty_lst_list, ty_lst_dict, ty_dct_int, ty_dct_bool, ty_dct_str, ty_dct_tuple, ty_dct_list, ty_dct_dict, ty_non, sub_tup0, sub_tup1, sub_tup2, sub_tup3, sub_tup4, sub_tup5, sub_lst0, sub_lst1, sub_lst2, sub_lst3, sub_lst4, sub_lst5, startA, List.map_cons, List.map_nil, List.length_cons, List.length_nil, List.replicate, List.cons_append, List.nil_append, true_and, and_true, ne_eq, isNon, Bool.not_true, Bool.not_false, Bool.true_or, Bool.or_true, Bool.false_or, reduceIte, Nat.reduceAdd, Nat.zero_add, Int.cast_ofNat_Int, Int.reduceEq, Int.reduceLT, Int.reduceLE, Nat.reduceLeDiff, decide_true, decide_false, not_true_eq_false, not_false_eq_true, Nat.reduceSub, Int.reduceToNat, W_slice, W_blt, W_mth, W_comp, WOe_none, WOe_some, WI_seq, WI_keys, WI_items, WI_range1, WI_range2, WI_enum, WI_zip, WI_rev, WI_revr, WI_rangeD, WT0_none, WT0_some, Ss_asg, Ss_setSub, Ss_aug, WS_asg, WS_aug, WS_for, WS_setC, bT_name, bT_tup, bT_lst, bTs_nil, bTs_name, seq_lst, seq_tup, seq_scr, seq_str, seq_loc, en_tup, en_lst, en_scr, en_loc, lst_lst, lst_scr, lst_loc, exInt, exLoc, exLst, exLst1, exLV_lst, exLV_loc, mOk_app, mOk_pop, mOk_ext, mOk_ins, mOk_ind, mOk_join, mOk_indl, m_append, m_pop, m_extend, m_insert, m_join, b_listL, b_listT, b_listS, b_listK, b_tupL, b_tupT, b_tupK, b_max2, b_min2, b_ord, b_str, sl_lst, sl_loc, sl_scr, sl_tupE, sl_strE, cat_lst, cat_loc, cat_tup, wLen_scr, wLen_loc, wLen_str, wSub_scr, wSub_loc, wSub_str, aug_add, aug_sub, tru_lst, tru_tup, tru_non, ty_scr_list, sg_p0, sg_pl, ss_p0, ss_pl, ob_set0, ob_set1, ob_set2, ob_set3, ob_g0, ob_g1, ob_g2, ob_g3, List.append_assoc, List.length_append, List.nil_append, Nat.add_zero, Nat.add_assoc, Int.reduceNeg, wipeA, orc_run, orc_glob, orc_init, orc_isa, orc_gdct, W_isc, W_isE, W_isEt, orc_xk, m_upper, m_partition, m_split, m_endswith, m_find, mOk_upper, mOk_partition, mOk_split, mOk_endswith, mOk_find, b_intB, W_glob, W_gget, W_fld, W_mcall, W_make, W_make0, W_dsp, Ss_setFld, subO_l, subO_d, subO_k, lenO_l, lenO_d, listO_l, listO_d, putO_l, keyV_int, keyV_str, wIn_str, wNotin_str, mapSome, at_0, at_1, at_2, at_3, at_4, at_5, ix_1_0, ix_2_0, ix_2_1, ix_3_0, ix_3_1, ix_3_2, ix_4_0, ix_4_1, ix_4_2, ix_4_3, va_s0, va_s1, va_s2, va_s3])
def nmT : NmT Hd.T := ⟨rfl, rfl, rfl⟩
theorem nm_sok {cs : List Nat} (h : Nm cs) : PyData.strOk (sx cs) = true := by
  unfold PyData.strOk sx
  simp only [List.all_toArray, List.all_eq_true, decide_eq_true_eq]
  exact fun c hc => by have := h.let_ c hc; omega
theorem isname_ok (k : Nat) (cs : List Nat) (hn : Nm cs) {S : Sto} {P : PV} {E : PX} (h : P (.bl true) S) : call Hd.T (k + 1) "is_name" [.str (sx cs)] S P E := by
  refine call_def (d := Hd.f_is_name) rfl rfl ?_
  unfold Hd.f_is_name
  walk_at "am"
  have p1 := hn.pos
  have p2 := hn.max
  rw [sx_len]
  refine ⟨Nat.le_trans p2 (by decide), ?_⟩
  rw [if_pos (by omega), if_pos (by omega)]
  refine seq_cut (call_mono _ k) (fun Γ S' => S = S' ∧ ∃ o, Γ = [some (.str (sx cs)), o]) ?_ ?_
  · walk_at "am"
    refine for_ix (call_mono _ k) (fun i Γ S' => S = S' ∧ ∃ o, Γ = [some (.str (sx cs)), o]) ⟨rfl, none, rfl⟩ ?_ ?_
    · rintro i x Γ S' hx ⟨rfl, o, rfl⟩
      rw [List.getElem?_map] at hx
      obtain ⟨c, hc, rfl⟩ := Option.map_eq_some_iff.mp hx
      have hc' : cs[i]? = some c := by simpa [sx] using hc
      have hL := hn.let_ c (List.mem_of_getElem? hc')
      refine ⟨_, rfl, ?_⟩
      walk_at "am"
      refine ⟨.str sL, rfl, ?_⟩
      walk_at "am"
      refine ⟨rfl, ?_⟩
      have e3 : ((⟨#[c]⟩ : Str).cps.getD 0 0) ∈ sL.cps.toList := by
        have e : sL.cps.toList = List.range' 97 26 := by decide +kernel
        rw [e, List.mem_range'_1]
        show 97 ≤ c ∧ c < 97 + 26
        omega
      rw [if_pos e3]
      exact ⟨_, rfl⟩
    · rintro Γ S' ⟨rfl, o, rfl⟩
      exact ⟨rfl, o, rfl⟩
  rintro Γ' S' ⟨rfl, o, rfl⟩
  walk_at "am"
  exact fin_keep h
def nmb (cs : List Nat) : Bool := decide (1 ≤ cs.length) && decide (cs.length ≤ 8) && cs.all fun c => decide (97 ≤ c ∧ c ≤ 122)
theorem nmb_iff {cs : List Nat} : nmb cs = true ↔ Nm cs := by
  unfold nmb
  rw [Bool.and_eq_true, Bool.and_eq_true, decide_eq_true_iff, decide_eq_true_iff, List.all_eq_true]
  constructor
  · rintro ⟨⟨h1, h2⟩, h3⟩
    exact ⟨h1, h2, fun c hc => of_decide_eq_true (h3 c hc)⟩
  · rintro ⟨h1, h2, h3⟩
    exact ⟨⟨h1, h2⟩, fun c hc => decide_eq_true (h3 c hc)⟩
theorem isname_gen (k : Nat) (cs : List Nat) (hl : cs.length ≤ 1000) {S : Sto} {P : PV} {E : PX} (h : P (.bl (nmb cs)) S) : call Hd.T (k + 1) "is_name" [.str (sx cs)] S P E := by
  refine call_def (d := Hd.f_is_name) rfl rfl ?_
  unfold Hd.f_is_name
  walk_at "am"
  rw [sx_len]
  refine ⟨Nat.le_trans hl (by decide), ?_⟩
  have no : nmb cs = false → fin S P (.bl false) S := fun e => fin_keep (by rw [e] at h; exact h)
  split
  case' isFalse => exact no (Bool.eq_false_iff.mpr fun z => by have := (nmb_iff.mp z).pos; omega)
  split
  case' isFalse => exact no (Bool.eq_false_iff.mpr fun z => by have := (nmb_iff.mp z).max; omega)
  rename_i l1 l2
  refine seq_cut (call_mono _ k) (fun Γ S' => S = S' ∧ (∀ c ∈ cs, 97 ≤ c ∧ c ≤ 122) ∧ ∃ o, Γ = [some (.str (sx cs)), o]) ?_ ?_
  · walk_at "am"
    refine for_ix (call_mono _ k) (fun i Γ S' => S = S' ∧ (∀ c ∈ cs.take i, 97 ≤ c ∧ c ≤ 122) ∧ ∃ o, Γ = [some (.str (sx cs)), o]) ⟨rfl, by simp, none, rfl⟩ ?_ ?_
    · rintro i x Γ S' hx ⟨rfl, hi, o, rfl⟩
      rw [List.getElem?_map] at hx
      obtain ⟨c, hc, rfl⟩ := Option.map_eq_some_iff.mp hx
      have hc' : cs[i]? = some c := by simpa [sx] using hc
      refine ⟨_, rfl, ?_⟩
      walk_at "am"
      refine ⟨.str sL, rfl, ?_⟩
      walk_at "am"
      refine ⟨rfl, ?_⟩
      have e3 : ((⟨#[c]⟩ : Str).cps.getD 0 0) ∈ sL.cps.toList ↔ 97 ≤ c ∧ c ≤ 122 := by
        have e : sL.cps.toList = List.range' 97 26 := by decide +kernel
        rw [e, List.mem_range'_1]
        show 97 ≤ c ∧ c < 97 + 26 ↔ _
        omega
      by_cases z : 97 ≤ c ∧ c ≤ 122
      · rw [if_pos (e3.mpr z)]
        refine ⟨fun d hd => ?_, _, rfl⟩
        rw [List.take_succ, hc'] at hd
        rcases List.mem_append.mp hd with y | y
        · exact hi d y
        · rw [List.mem_singleton.mp y]; exact z
      · rw [if_neg (fun y => z (e3.mp y))]
        exact no (Bool.eq_false_iff.mpr fun y => z ((nmb_iff.mp y).let_ c (List.mem_of_getElem? hc')))
    · rintro Γ S' ⟨rfl, hi, o, rfl⟩
      refine ⟨rfl, fun c hc => hi c ?_, o, rfl⟩
      rw [List.length_map]
      have : (sx cs).cps.toList.length = cs.length := by simp [sx]
      rw [this, List.take_length]; exact hc
  rintro Γ' S' ⟨rfl, hi, o, rfl⟩
  walk_at "am"
  have e : nmb cs = true := nmb_iff.mpr ⟨by omega, by omega, hi⟩
  rw [e] at h
  exact fin_keep h
theorem whole_ok (k : Nat) (n : Int) {S : Sto} {P : PV} {E : PX} (h : P (.bl true) S) : call Hd.T (k + 1) "_law_whole" [.int n] S P E := by
  refine call_def (d := Hd.f_l_whole) rfl rfl ?_
  unfold Hd.f_l_whole
  walk_at "am"
  exact fin_keep h
theorem same_ok (k : Nat) (xs : List Int) (hl : xs.length ≤ 1000000) {u v : Va} {S : Sto} {P : PV} {E : PX} (hu : LV S u (xs.map Va.int)) (hv : LV S v (xs.map Va.int)) (h : P (.bl true) S) : call Hd.T (k + 2) "_law_same_row" [u, v] S P E := by
  refine call_def (d := Hd.f_l_same_row) rfl rfl ?_
  unfold Hd.f_l_same_row
  walk_at "am"
  refine ⟨_, hu.ty, ?_⟩
  rw [if_neg (by decide)]
  refine hu.len (hv.len ?_)
  walk_at "am"
  refine seq_cut (call_mono _ _) (fun Γ S' => S' = S ∧ ∃ o, Γ = [some u, some v, o]) ?_ ?_
  · walk_at "am"
    refine hv.len ⟨_, rfl, by omega, by rw [List.length_map]; omega, ?_⟩
    refine for_ix (call_mono _ _) (fun i Γ S' => S' = S ∧ ∃ o, Γ = [some u, some v, o]) ⟨rfl, none, rfl⟩ ?_ ?_
    · rintro i x Γ S' hx ⟨rfl, o, rfl⟩
      obtain ⟨hi, rfl⟩ := rangeV_get hx
      have hi' : i < xs.length := by simpa using hi
      have e0 : L2.atI (xs.map Va.int) (0 + (i : Int)) = some (.int xs[i]) := by
        rw [Int.zero_add]; exact L2.atI_nat (by simp [hi'])
      refine ⟨_, rfl, ?_⟩
      walk_at "am"
      refine hu.sub e0 (whole_ok _ _ ?_)
      walk_at "am"
      refine hu.sub e0 (hv.sub e0 ?_)
      walk_at "am"
      exact ⟨_, rfl⟩
    · rintro Γ S' ⟨rfl, o, rfl⟩
      exact ⟨rfl, o, rfl⟩
  · rintro Γ S' ⟨rfl, o, rfl⟩
    walk_at "am"
    exact fin_keep h
end TR
end

section
set_option linter.all false
set_option maxRecDepth 100000
set_option maxHeartbeats 4000000
/-! Places with a name; frames; dicts by numbers. -/
open PySem
namespace TR
open PySem AM NM
local macro_rules | `(tactic| walk_at "am") => `(tactic| try simp only [st_set0, st_setS, iteTrue, iteFalse, iteDec, iteNDec, exSome, exBl, W_var, W_int, W_bl, W_non, W_str, W_tup, W_lst, W_bin, W_neg, W_cmp, W_isN, W_notN, W_lrev, W_maxd, W_sortk, wIsb, wNisb, W_chain, W_chain3, W_tst, W_ite, W_call, W_len, W_abs, W_isi, W_sub, WT_val, WT_not, WT_and, WT_or, WA_one, WA_cons, WO_one, WO_cons, WB_val, WB_not, WB_and, WB_or, WBA_one, WBA_cons, WBO_one, WBO_cons, WL_nil, WL_cons, WS_set, WS_ret, WS_retN, WS_pass, WS_brk, WS_cont, WS_drop, WS_ite, WS_raise, WSs_nil, Ss_set, Ss_ret, Ss_retN, Ss_pass, Ss_brk, Ss_cont, Ss_drop, Ss_raise, Ss_ite_ret, Ss_ite_retN, Ss_ite_raise, Ss_ite_cont, Ss_ite_brk, Ss_ite_last, gt_0, gt_S, wAdd_int, wSub_int, wMul_int, wMul_rep, wMul_str, wDiv_int, wMod_int, wPow_int, wAdd_str, wNeg_int, wAbs_int, wLt_int, wLe_int, wGt_int, wGe_int, wEq_int, wNe_int, wEq_bl, wNe_bl, wEq_str, wNe_str, wLen_tup, wLen_lst, tru_bl, tru_int, ty_int_int, ty_int_bool, ty_int_str, ty_int_tuple, ty_int_list, ty_int_dict, ty_bl_int, ty_bl_bool, ty_bl_str, ty_bl_tuple, ty_bl_list, ty_bl_dict, ty_str_int, ty_str_bool, ty_str_str, ty_str_tuple, ty_str_list, ty_str_dict, ty_tup_int, ty_tup_bool, ty_tup_str, ty_tup_tuple, ty_tup_list, ty_tup_dict, ty_lst_int, ty_lst_bool, ty_lst_str, ty_lst_tuple, ty_lst_list, ty_lst_dict, ty_dct_int, ty_dct_bool, ty_dct_str, ty_dct_tuple, ty_dct_list, ty_dct_dict, ty_non, sub_tup0, sub_tup1, sub_tup2, sub_tup3, sub_tup4, sub_tup5, sub_lst0, sub_lst1, sub_lst2, sub_lst3, sub_lst4, sub_lst5, startA, List.map_cons, List.map_nil, List.length_cons, List.length_nil, List.replicate, List.cons_append, List.nil_append, true_and, and_true, ne_eq, isNon, Bool.not_true, Bool.not_false, Bool.true_or, Bool.or_true, Bool.false_or, reduceIte, Nat.reduceAdd, Nat.zero_add, Int.cast_ofNat_Int, Int.reduceEq, Int.reduceLT, Int.reduceLE, Nat.reduceLeDiff, decide_true, decide_false, not_true_eq_false, not_false_eq_true, Nat.reduceSub, Int.reduceToNat, W_slice, W_blt, W_mth, W_comp, WOe_none, WOe_some, WI_seq, WI_keys, WI_items, WI_range1, WI_range2, WI_enum, WI_zip, WI_rev, WI_revr, WI_rangeD, WT0_none, WT0_some, Ss_asg, Ss_setSub, Ss_aug, WS_asg, WS_aug, WS_for, WS_setC, bT_name, bT_tup, bT_lst, bTs_nil, bTs_name, seq_lst, seq_tup, seq_scr, seq_str, seq_loc, en_tup, en_lst, en_scr, en_loc, lst_lst, lst_scr, lst_loc, exInt, exLoc, exLst, exLst1, exLV_lst, exLV_loc, mOk_app, mOk_pop, mOk_ext, mOk_ins, mOk_ind, mOk_join, mOk_indl, m_append, m_pop, m_extend, m_insert, m_join, b_listL, b_listT, b_listS, b_listK, b_tupL, b_tupT, b_tupK, b_max2, b_min2, b_ord, b_str, sl_lst, sl_loc, sl_scr, sl_tupE, sl_strE, cat_lst, cat_loc, cat_tup, wLen_scr, wLen_loc, wLen_str, wSub_scr, wSub_loc, wSub_str, aug_add, aug_sub, tru_lst, tru_tup, tru_non, ty_scr_list, sg_p0, sg_pl, ss_p0, ss_pl, ob_set0, ob_set1, ob_set2, ob_set3, ob_g0, ob_g1, ob_g2, ob_g3, List.append_assoc, List.length_append, List.nil_append, Nat.add_zero, Nat.add_assoc, Int.reduceNeg, wipeA, orc_run, orc_glob, orc_init, orc_isa, orc_gdct, W_isc, W_isE, W_isEt, orc_xk, m_upper, m_partition, m_split, m_endswith, m_find, mOk_upper, mOk_partition, mOk_split, mOk_endswith, mOk_find, b_intB, W_glob, W_gget, W_fld, W_mcall, W_make, W_make0, W_dsp, Ss_setFld, subO_l, subO_d, subO_k, lenO_l, lenO_d, listO_l, listO_d, putO_l, keyV_int, keyV_str, wIn_str, wNotin_str, mapSome, at_0, at_1, at_2, at_3, at_4, at_5, ix_1_0, ix_2_0, ix_2_1, ix_3_0, ix_3_1, ix_3_2, ix_4_0, ix_4_1, ix_4_2, ix_4_3, va_s0, va_s1, va_s2, va_s3])
local macro_rules | `(tactic| walk_at "if") => `(tactic| (try simp only []); rw [Ss_ite]; simp only [st_set0, st_setS, iteTrue, iteFalse, iteDec, iteNDec, exSome, exBl, W_var, W_int, W_bl, W_non, W_str, W_tup, W_lst, W_bin, W_neg, W_cmp, W_isN, W_notN, W_lrev, W_maxd, W_sortk, wIsb, wNisb, W_chain, W_chain3, W_tst, W_ite, W_call, W_len, W_abs, W_isi, W_sub, WT_val, WT_not, WT_and, WT_or, WA_one, WA_cons, WO_one, WO_cons, WB_val, WB_not, WB_and, WB_or, WBA_one, WBA_cons, WBO_one, WBO_cons, WL_nil, WL_cons, WS_set, WS_ret, WS_retN, WS_pass, WS_brk, WS_cont, WS_drop, WS_ite, WS_raise, WSs_nil, Ss_set, Ss_ret, Ss_retN, Ss_pass, Ss_brk, Ss_cont, Ss_drop, Ss_raise, Ss_ite_ret, Ss_ite_retN, Ss_ite_raise, Ss_ite_cont, Ss_ite_brk, Ss_ite_last, gt_0, gt_S, wAdd_int, wSub_int, wMul_int, wMul_rep, wMul_str, wDiv_int, wMod_int, wPow_int, wAdd_str, wNeg_int, wAbs_int, wLt_int, wLe_int, wGt_int, wGe_int, wEq_int, wNe_int, wEq_bl, wNe_bl, wEq_str, wNe_str, wLen_tup, wLen_lst, tru_bl, tru_int, ty_int_int, ty_int_bool, ty_int_str, ty_int_tuple, ty_int_list, ty_int_dict, ty_bl_int, ty_bl_bool, ty_bl_str, ty_bl_tuple, ty_bl_list, ty_bl_dict, ty_str_int, ty_str_bool, ty_str_str, ty_str_tuple, ty_str_list, ty_str_dict, ty_tup_int, ty_tup_bool, ty_tup_str, ty_tup_tuple, ty_tup_list, ty_tup_dict, ty_lst_int, ty_lst_bool, ty_lst_str, ty_lst_tuple, ty_lst_list, ty_lst_dict, ty_dct_int, ty_dct_bool, ty_dct_str, ty_dct_tuple, ty_dct_list, ty_dct_dict, ty_non, sub_tup0, sub_tup1, sub_tup2, sub_tup3, sub_tup4, sub_tup5, sub_lst0, sub_lst1, sub_lst2, sub_lst3, sub_lst4, sub_lst5, startA, List.map_cons, List.map_nil, List.length_cons, List.length_nil, List.replicate, List.cons_append, List.nil_append, true_and, and_true, ne_eq, isNon, Bool.not_true, Bool.not_false, Bool.true_or, Bool.or_true, Bool.false_or, reduceIte, Nat.reduceAdd, Nat.zero_add, Int.cast_ofNat_Int, Int.reduceEq, Int.reduceLT, Int.reduceLE, Nat.reduceLeDiff, decide_true, decide_false, not_true_eq_false, not_false_eq_true, Nat.reduceSub, Int.reduceToNat, W_slice, W_blt, W_mth, W_comp, WOe_none, WOe_some, WI_seq, WI_keys, WI_items, WI_range1, WI_range2, WI_enum, WI_zip, WI_rev, WI_revr, WI_rangeD, WT0_none, WT0_some, Ss_asg, Ss_setSub, Ss_aug, WS_asg, WS_aug, WS_for, WS_setC, bT_name, bT_tup, bT_lst, bTs_nil, bTs_name, seq_lst, seq_tup, seq_scr, seq_str, seq_loc, en_tup, en_lst, en_scr, en_loc, lst_lst, lst_scr, lst_loc, exInt, exLoc, exLst, exLst1, exLV_lst, exLV_loc, mOk_app, mOk_pop, mOk_ext, mOk_ins, mOk_ind, mOk_join, mOk_indl, m_append, m_pop, m_extend, m_insert, m_join, b_listL, b_listT, b_listS, b_listK, b_tupL, b_tupT, b_tupK, b_max2, b_min2, b_ord, b_str, sl_lst, sl_loc, sl_scr, sl_tupE, sl_strE, cat_lst, cat_loc, cat_tup, wLen_scr, wLen_loc, wLen_str, wSub_scr, wSub_loc, wSub_str, aug_add, aug_sub, tru_lst, tru_tup, tru_non, ty_scr_list, sg_p0, sg_pl, ss_p0, ss_pl, ob_set0, ob_set1, ob_set2, ob_set3, ob_g0, ob_g1, ob_g2, ob_g3, List.append_assoc, List.length_append, List.nil_append, Nat.add_zero, Nat.add_assoc, Int.reduceNeg, wipeA, orc_run, orc_glob, orc_init, orc_isa, orc_gdct, W_isc, W_isE, W_isEt, orc_xk, m_upper, m_partition, m_split, m_endswith, m_find, mOk_upper, mOk_partition, mOk_split, mOk_endswith, mOk_find, b_intB, W_glob, W_gget, W_fld, W_mcall, W_make, W_make0, W_dsp, Ss_setFld, subO_l, subO_d, subO_k, lenO_l, lenO_d, listO_l, listO_d, putO_l, keyV_int, keyV_str, wIn_str, wNotin_str, mapSome, at_0, at_1, at_2, at_3, at_4, at_5, ix_1_0, ix_2_0, ix_2_1, ix_3_0, ix_3_1, ix_3_2, ix_4_0, ix_4_1, ix_4_2, ix_4_3, va_s0, va_s1, va_s2, va_s3])
/-! ### places with a name -/
inductive Tag where
  | tree (i : Nat) | stand (i : Nat) | bx (i : Nat) (n : Int) | row (i : Nat) (n : Int) | marks (i : Nat) (n : Int) | words (i : Nat) (n : Int)
  | lrows (i : Nat) | lrow (i : Nat) (n : Int) | lfacts (i : Nat) | lmarks (i : Nat) | lmark (i : Nat) (n : Int) | top (k : Nat)
  deriving DecidableEq
structure Mem where
  L : Tag → Nat
  own : Nat → Option Tag
def Mem.new (M : Mem) (a : Tag) (l : Nat) : Mem := ⟨fun b => if b = a then l else M.L b, fun k => if k = l then some a else M.own k⟩
/-- at a's place stands o -/
def Pt (M : Mem) (S : Sto) (a : Tag) (o : Ob) : Prop := S[M.L a]? = some o ∧ M.own (M.L a) = some a
theorem new_eq {M : Mem} {a : Tag} {l : Nat} : (M.new a l).L a = l := if_pos rfl
theorem new_ne {M : Mem} {a b : Tag} {l : Nat} (h : b ≠ a) : (M.new a l).L b = M.L b := if_neg h
section
variable {M M' : Mem} {S S' : Sto} {a b : Tag} {o u : Ob}
theorem Pt.lt (h : Pt M S a o) : M.L a < S.length := lt_of_get h.1
theorem Pt.dif (h : Pt M S a o) (h' : Pt M S' b u) (n : a ≠ b) : M.L a ≠ M.L b := fun e => by
  have := h.2
  rw [e, h'.2] at this
  exact n (Option.some.inj this).symm
theorem Pt.app {N : Sto} (h : Pt M S a o) : Pt M (S ++ N) a o := ⟨kept_app _ _ h.1, h.2⟩
theorem Pt.set (h : Pt M S a o) (h' : Pt M S' b u) (n : a ≠ b) {w : Ob} : Pt M (S.set (M.L b) w) a o := ⟨by rw [List.getElem?_set_ne (fun e => h.dif h' n e.symm)]; exact h.1, h.2⟩
theorem Pt.here (h : Pt M S a o) {w : Ob} : Pt M (S.set (M.L a) w) a w := ⟨List.getElem?_set_self h.lt, h.2⟩
theorem Pt.one (h : Pt M S a o) (h' : Pt M S a u) : o = u := Option.some.inj (h.1.symm.trans h'.1)
end
/-- what D tells is kept -/
def Fr (D : Tag → Prop) (M : Mem) (S : Sto) (M' : Mem) (S' : Sto) : Prop := ∀ a o, D a → Pt M S a o → M'.L a = M.L a ∧ Pt M' S' a o
section
variable {D D' : Tag → Prop} {M M' M2 : Mem} {S S' S2 : Sto} {a b : Tag} {o u : Ob}
theorem Fr.refl : Fr D M S M S := fun _ _ _ h => ⟨rfl, h⟩
theorem Fr.trans (f : Fr D M S M' S') (g : Fr D M' S' M2 S2) : Fr D M S M2 S2 := fun a o d h => by
  obtain ⟨e, h1⟩ := f a o d h
  obtain ⟨e2, h2⟩ := g a o d h1
  exact ⟨e2.trans e, h2⟩
theorem Fr.weak (f : Fr D M S M' S') (w : ∀ a, D' a → D a) : Fr D' M S M' S' := fun a o d h => f a o (w a d) h
theorem Fr.app {N : Sto} : Fr D M S M (S ++ N) := fun _ _ _ h => ⟨rfl, h.app⟩
theorem Fr.set (h : Pt M S b u) (w : Ob) : Fr (· ≠ b) M S M (S.set (M.L b) w) := fun a o d q => ⟨rfl, q.set h d⟩
theorem Fr.new (b : Tag) {l : Nat} (hl : S.length ≤ l) : Fr (· ≠ b) M S (M.new b l) S := fun a o d q => by
  have e : (M.new b l).L a = M.L a := new_ne d
  have := q.lt
  refine ⟨e, ?_, ?_⟩
  · rw [e]; exact q.1
  · rw [e]
    show (if M.L a = l then some b else M.own (M.L a)) = _
    rw [if_neg (by omega)]; exact q.2
theorem Pt.mk {l : Nat} (e : M.L a = l) (h : S[l]? = some o) (w : M.own l = some a) : Pt M S a o := ⟨by rw [e]; exact h, by rw [e]; exact w⟩
end
/-! ### dicts by numbers -/
def kd {α : Type} (ns : List Int) (f : Int → α) : List (L2.Key × α) := ns.map fun n => (.inl n, f n)
section
variable {ns : List Int} {f g : Int → Va} {m : Int} {v : Va}
theorem kd_len : (kd ns f).length = ns.length := List.length_map _
theorem dget_kd (h : m ∈ ns) : dget (kd ns f) (.inl m) = some (f m) := by
  induction ns with
  | nil => cases h
  | cons n r ih =>
    unfold dget kd at ih ⊢
    rw [List.map_cons, List.find?_cons]
    by_cases e : n = m
    · subst e; simp
    · have h' : m ∈ r := by
        rcases List.mem_cons.mp h with z | z
        · exact absurd z.symm e
        · exact z
      have e2 : decide ((Sum.inl n : L2.Key) = Sum.inl m) = false := decide_eq_false (fun z => e (Sum.inl.inj z))
      simp only [e2]
      exact ih h'
theorem dget_kd_no (h : m ∉ ns) : dget (kd ns f) (.inl m) = none := by
  induction ns with
  | nil => rfl
  | cons n r ih =>
    unfold dget kd at ih ⊢
    rw [List.map_cons, List.find?_cons]
    have e : n ≠ m := fun z => h (z ▸ List.mem_cons_self)
    have e2 : decide ((Sum.inl n : L2.Key) = Sum.inl m) = false := decide_eq_false (fun z => e (Sum.inl.inj z))
    simp only [e2]
    exact ih fun z => h (List.mem_cons_of_mem _ z)
theorem dget_kd_is : (dget (kd ns f) (.inl m)).isSome = decide (m ∈ ns) := by
  by_cases h : m ∈ ns
  · rw [dget_kd h, decide_eq_true h]; rfl
  · rw [dget_kd_no h, decide_eq_false h]; rfl
theorem any_kd : ((kd ns f).any fun kv => decide (kv.1 = (.inl m : L2.Key))) = decide (m ∈ ns) := by
  unfold kd
  rw [List.any_map, Bool.eq_iff_iff, List.any_eq_true, decide_eq_true_iff]
  constructor
  · rintro ⟨n, hn, e⟩
    have := Sum.inl.inj (of_decide_eq_true e)
    exact this ▸ hn
  · exact fun h => ⟨m, h, decide_eq_true rfl⟩
theorem dput_new (h : m ∉ ns) : dput (kd ns f) (.inl m) v = kd ns f ++ [(.inl m, v)] := by
  unfold dput
  rw [any_kd, decide_eq_false h, if_neg (by decide)]
theorem dput_old (h : m ∈ ns) : dput (kd ns f) (.inl m) v = kd ns (fun n => if n = m then v else f n) := by
  unfold dput
  rw [any_kd, decide_eq_true h, if_pos rfl]
  unfold kd
  rw [List.map_map]
  refine List.map_congr_left fun n _ => ?_
  by_cases e : n = m
  · subst e; simp
  · have e2 : (Sum.inl n : L2.Key) ≠ Sum.inl m := fun z => e (Sum.inl.inj z)
    simp [e, e2]
theorem kd_congr (h : ∀ n ∈ ns, f n = g n) : kd ns f = kd ns g := List.map_congr_left fun n hn => by rw [h n hn]
theorem kd_snoc : kd (ns ++ [m]) f = kd ns f ++ [(.inl m, f m)] := by simp [kd]
theorem kd_keys : (kd ns f).map (fun kv => keyA kv.1) = ns.map Va.int := by
  unfold kd
  rw [List.map_map]
  rfl
theorem ddrop_kd : ddrop (kd ns f) (.inl m) = kd (ns.filter fun n => decide (n ≠ m)) f := by
  unfold ddrop kd
  rw [List.filter_map]
  congr 1
  refine List.filter_congr fun n _ => ?_
  show decide ((Sum.inl n : L2.Key) ≠ Sum.inl m) = _
  refine decide_eq_decide.mpr ⟨fun z e => z (by rw [e]), fun z e => z (Sum.inl.inj e)⟩
end
def up {α : Type} (f : Int → α) (k : Int) (v : α) : Int → α := fun n => if n = k then v else f n
theorem up_eq {α : Type} {f : Int → α} {k : Int} {v : α} : up f k v k = v := if_pos rfl
theorem up_ne {α : Type} {f : Int → α} {k n : Int} {v : α} (h : n ≠ k) : up f k v n = f n := if_neg h
theorem enumV_get {x : Va} : ∀ {xs : List Va} {n i : Nat}, (enumV n xs)[i]? = some x → ∃ y, xs[i]? = some y ∧ x = .tup [.int ((n + i : Nat) : Int), y]
  | [], n, i, h => by simp [enumV] at h
  | y :: ys, n, 0, h => by simp [enumV] at h; exact ⟨y, rfl, h.symm⟩
  | y :: ys, n, i + 1, h => by
    obtain ⟨z, h1, h2⟩ := enumV_get (xs := ys) (n := n + 1) (i := i) (by simpa [enumV] using h)
    exact ⟨z, by simpa using h1, by rw [h2]; congr 4; omega⟩
theorem enumV_len : ∀ {xs : List Va} {n : Nat}, (enumV n xs).length = xs.length
  | [], _ => rfl
  | x :: xs, n => by simp [enumV, enumV_len (xs := xs)]
end TR
end

section
set_option linter.all false
set_option maxRecDepth 100000
set_option maxHeartbeats 4000000
/-! Trees: what stands where; the deeds and questions of a tree. -/
open PySem
namespace TR
open PySem AM NM
local macro_rules | `(tactic| walk_at "am") => `(tactic| try simp only [st_set0, st_setS, iteTrue, iteFalse, iteDec, iteNDec, exSome, exBl, W_var, W_int, W_bl, W_non, W_str, W_tup, W_lst, W_bin, W_neg, W_cmp, W_isN, W_notN, W_lrev, W_maxd, W_sortk, wIsb, wNisb, W_chain, W_chain3, W_tst, W_ite, W_call, W_len, W_abs, W_isi, W_sub, WT_val, WT_not, WT_and, WT_or, WA_one, WA_cons, WO_one, WO_cons, WB_val, WB_not, WB_and, WB_or, WBA_one, WBA_cons, WBO_one, WBO_cons, WL_nil, WL_cons, WS_set, WS_ret, WS_retN, WS_pass, WS_brk, WS_cont, WS_drop, WS_ite, WS_raise, WSs_nil, Ss_set, Ss_ret, Ss_retN, Ss_pass, Ss_brk, Ss_cont, Ss_drop, Ss_raise, Ss_ite_ret, Ss_ite_retN, Ss_ite_raise, Ss_ite_cont, Ss_ite_brk, Ss_ite_last, gt_0, gt_S, wAdd_int, wSub_int, wMul_int, wMul_rep, wMul_str, wDiv_int, wMod_int, wPow_int, wAdd_str, wNeg_int, wAbs_int, wLt_int, wLe_int, wGt_int, wGe_int, wEq_int, wNe_int, wEq_bl, wNe_bl, wEq_str, wNe_str, wLen_tup, wLen_lst, tru_bl, tru_int, ty_int_int, ty_int_bool, ty_int_str, ty_int_tuple, ty_int_list, ty_int_dict, ty_bl_int, ty_bl_bool, ty_bl_str, ty_bl_tuple, ty_bl_list, ty_bl_dict, ty_str_int, ty_str_bool, ty_str_str, ty_str_tuple, ty_str_list, ty_str_dict, ty_tup_int, ty_tup_bool, ty_tup_str, ty_tup_tuple, ty_tup_list, ty_tup_dict, ty_lst_int, ty_lst_bool, ty_lst_str, ty_lst_tuple, ty_lst_list, ty_lst_dict, ty_dct_int, ty_dct_bool, ty_dct_str, ty_dct_tuple, ty_dct_list, ty_dct_dict, ty_non, sub_tup0, sub_tup1, sub_tup2, sub_tup3, sub_tup4, sub_tup5, sub_lst0, sub_lst1, sub_lst2, sub_lst3, sub_lst4, sub_lst5, startA, List.map_cons, List.map_nil, List.length_cons, List.length_nil, List.replicate, List.cons_append, List.nil_append, true_and, and_true, ne_eq, isNon, Bool.not_true, Bool.not_false, Bool.true_or, Bool.or_true, Bool.false_or, reduceIte, Nat.reduceAdd, Nat.zero_add, Int.cast_ofNat_Int, Int.reduceEq, Int.reduceLT, Int.reduceLE, Nat.reduceLeDiff, decide_true, decide_false, not_true_eq_false, not_false_eq_true, Nat.reduceSub, Int.reduceToNat, W_slice, W_blt, W_mth, W_comp, WOe_none, WOe_some, WI_seq, WI_keys, WI_items, WI_range1, WI_range2, WI_enum, WI_zip, WI_rev, WI_revr, WI_rangeD, WT0_none, WT0_some, Ss_asg, Ss_setSub, Ss_aug, WS_asg, WS_aug, WS_for, WS_setC, bT_name, bT_tup, bT_lst, bTs_nil, bTs_name, seq_lst, seq_tup, seq_scr, seq_str, seq_loc, en_tup, en_lst, en_scr, en_loc, lst_lst, lst_scr, lst_loc, exInt, exLoc, exLst, exLst1, exLV_lst, exLV_loc, mOk_app, mOk_pop, mOk_ext, mOk_ins, mOk_ind, mOk_join, mOk_indl, m_append, m_pop, m_extend, m_insert, m_join, b_listL, b_listT, b_listS, b_listK, b_tupL, b_tupT, b_tupK, b_max2, b_min2, b_ord, b_str, sl_lst, sl_loc, sl_scr, sl_tupE, sl_strE, cat_lst, cat_loc, cat_tup, wLen_scr, wLen_loc, wLen_str, wSub_scr, wSub_loc, wSub_str, aug_add, aug_sub, tru_lst, tru_tup, tru_non, ty_scr_list, sg_p0, sg_pl, ss_p0, ss_pl, ob_set0, ob_set1, ob_set2, ob_set3, ob_g0, ob_g1, ob_g2, ob_g3, List.append_assoc, List.length_append, List.nil_append, Nat.add_zero, Nat.add_assoc, Int.reduceNeg, wipeA, orc_run, orc_glob, orc_init, orc_isa, orc_gdct, W_isc, W_isE, W_isEt, orc_xk, m_upper, m_partition, m_split, m_endswith, m_find, mOk_upper, mOk_partition, mOk_split, mOk_endswith, mOk_find, b_intB, W_glob, W_gget, W_fld, W_mcall, W_make, W_make0, W_dsp, Ss_setFld, subO_l, subO_d, subO_k, lenO_l, lenO_d, listO_l, listO_d, putO_l, keyV_int, keyV_str, wIn_str, wNotin_str, mapSome, at_0, at_1, at_2, at_3, at_4, at_5, ix_1_0, ix_2_0, ix_2_1, ix_3_0, ix_3_1, ix_3_2, ix_4_0, ix_4_1, ix_4_2, ix_4_3, va_s0, va_s1, va_s2, va_s3])
local macro_rules | `(tactic| walk_at "if") => `(tactic| (try simp only []); rw [Ss_ite]; simp only [st_set0, st_setS, iteTrue, iteFalse, iteDec, iteNDec, exSome, exBl, W_var, W_int, W_bl, W_non, W_str, W_tup, W_lst, W_bin, W_neg, W_cmp, W_isN, W_notN, W_lrev, W_maxd, W_sortk, wIsb, wNisb, W_chain, W_chain3, W_tst, W_ite, W_call, W_len, W_abs, W_isi, W_sub, WT_val, WT_not, WT_and, WT_or, WA_one, WA_cons, WO_one, WO_cons, WB_val, WB_not, WB_and, WB_or, WBA_one, WBA_cons, WBO_one, WBO_cons, WL_nil, WL_cons, WS_set, WS_ret, WS_retN, WS_pass, WS_brk, WS_cont, WS_drop, WS_ite, WS_raise, WSs_nil, Ss_set, Ss_ret, Ss_retN, Ss_pass, Ss_brk, Ss_cont, Ss_drop, Ss_raise, Ss_ite_ret, Ss_ite_retN, Ss_ite_raise, Ss_ite_cont, Ss_ite_brk, Ss_ite_last, gt_0, gt_S, wAdd_int, wSub_int, wMul_int, wMul_rep, wMul_str, wDiv_int, wMod_int, wPow_int, wAdd_str, wNeg_int, wAbs_int, wLt_int, wLe_int, wGt_int, wGe_int, wEq_int, wNe_int, wEq_bl, wNe_bl, wEq_str, wNe_str, wLen_tup, wLen_lst, tru_bl, tru_int, ty_int_int, ty_int_bool, ty_int_str, ty_int_tuple, ty_int_list, ty_int_dict, ty_bl_int, ty_bl_bool, ty_bl_str, ty_bl_tuple, ty_bl_list, ty_bl_dict, ty_str_int, ty_str_bool, ty_str_str, ty_str_tuple, ty_str_list, ty_str_dict, ty_tup_int, ty_tup_bool, ty_tup_str, ty_tup_tuple, ty_tup_list, ty_tup_dict, ty_lst_int, ty_lst_bool, ty_lst_str, ty_lst_tuple, ty_lst_list, ty_lst_dict, ty_dct_int, ty_dct_bool, ty_dct_str, ty_dct_tuple, ty_dct_list, ty_dct_dict, ty_non, sub_tup0, sub_tup1, sub_tup2, sub_tup3, sub_tup4, sub_tup5, sub_lst0, sub_lst1, sub_lst2, sub_lst3, sub_lst4, sub_lst5, startA, List.map_cons, List.map_nil, List.length_cons, List.length_nil, List.replicate, List.cons_append, List.nil_append, true_and, and_true, ne_eq, isNon, Bool.not_true, Bool.not_false, Bool.true_or, Bool.or_true, Bool.false_or, reduceIte, Nat.reduceAdd, Nat.zero_add, Int.cast_ofNat_Int, Int.reduceEq, Int.reduceLT, Int.reduceLE, Nat.reduceLeDiff, decide_true, decide_false, not_true_eq_false, not_false_eq_true, Nat.reduceSub, Int.reduceToNat, W_slice, W_blt, W_mth, W_comp, WOe_none, WOe_some, WI_seq, WI_keys, WI_items, WI_range1, WI_range2, WI_enum, WI_zip, WI_rev, WI_revr, WI_rangeD, WT0_none, WT0_some, Ss_asg, Ss_setSub, Ss_aug, WS_asg, WS_aug, WS_for, WS_setC, bT_name, bT_tup, bT_lst, bTs_nil, bTs_name, seq_lst, seq_tup, seq_scr, seq_str, seq_loc, en_tup, en_lst, en_scr, en_loc, lst_lst, lst_scr, lst_loc, exInt, exLoc, exLst, exLst1, exLV_lst, exLV_loc, mOk_app, mOk_pop, mOk_ext, mOk_ins, mOk_ind, mOk_join, mOk_indl, m_append, m_pop, m_extend, m_insert, m_join, b_listL, b_listT, b_listS, b_listK, b_tupL, b_tupT, b_tupK, b_max2, b_min2, b_ord, b_str, sl_lst, sl_loc, sl_scr, sl_tupE, sl_strE, cat_lst, cat_loc, cat_tup, wLen_scr, wLen_loc, wLen_str, wSub_scr, wSub_loc, wSub_str, aug_add, aug_sub, tru_lst, tru_tup, tru_non, ty_scr_list, sg_p0, sg_pl, ss_p0, ss_pl, ob_set0, ob_set1, ob_set2, ob_set3, ob_g0, ob_g1, ob_g2, ob_g3, List.append_assoc, List.length_append, List.nil_append, Nat.add_zero, Nat.add_assoc, Int.reduceNeg, wipeA, orc_run, orc_glob, orc_init, orc_isa, orc_gdct, W_isc, W_isE, W_isEt, orc_xk, m_upper, m_partition, m_split, m_endswith, m_find, mOk_upper, mOk_partition, mOk_split, mOk_endswith, mOk_find, b_intB, W_glob, W_gget, W_fld, W_mcall, W_make, W_make0, W_dsp, Ss_setFld, subO_l, subO_d, subO_k, lenO_l, lenO_d, listO_l, listO_d, putO_l, keyV_int, keyV_str, wIn_str, wNotin_str, mapSome, at_0, at_1, at_2, at_3, at_4, at_5, ix_1_0, ix_2_0, ix_2_1, ix_3_0, ix_3_1, ix_3_2, ix_4_0, ix_4_1, ix_4_2, ix_4_3, va_s0, va_s1, va_s2, va_s3])
/-! ### a tree -/
structure Tre where
  coming : Int
  nums : List Int
  nm : Int → List Nat
  hold : Int → Option Int
  deep : Int → Nat
  row : Int → List Int
  marks : Int → List Str
  words : Int → List Str
  own : Int → Va
def hv : Option Int → Va
  | none => .non
  | some h => .int h
def boxF (M : Mem) (i : Nat) (τ : Tre) (n : Int) : List (Str × Va) :=
  [("name", .str (sx (τ.nm n))), ("holder", hv (τ.hold n)), ("deep", .int (τ.deep n)), ("row", .loc (M.L (.row i n))), ("marks", .loc (M.L (.marks i n))), ("words", .loc (M.L (.words i n))), ("own", τ.own n)]
structure BoxAt (M : Mem) (S : Sto) (i : Nat) (τ : Tre) (n : Int) : Prop where
  bx : Pt M S (.bx i n) (.ins "Box" (boxF M i τ n))
  row : Pt M S (.row i n) (.lst ((τ.row n).map Va.int))
  marks : Pt M S (.marks i n) (.dct ((τ.marks n).map fun w => (.inr w, .bl true)))
  words : Pt M S (.words i n) (.lst ((τ.words n).map Va.str))
structure TreeAt (M : Mem) (S : Sto) (i : Nat) (τ : Tre) : Prop where
  tree : Pt M S (.tree i) (.ins "Tree" [("standing", .loc (M.L (.stand i))), ("coming", .int τ.coming)])
  stand : Pt M S (.stand i) (.dct (kd τ.nums fun n => .loc (M.L (.bx i n))))
  box : ∀ n ∈ τ.nums, BoxAt M S i τ n
/-- a tag of tree i -/
def Tag.of (i : Nat) : Tag → Bool
  | .tree j => decide (j = i) | .stand j => decide (j = i) | .bx j _ => decide (j = i) | .row j _ => decide (j = i) | .marks j _ => decide (j = i) | .words j _ => decide (j = i)
  | _ => false
theorem BoxAt.fr {D : Tag → Prop} {M M' : Mem} {S S' : Sto} {i : Nat} {τ τ' : Tre} {n : Int} (h : BoxAt M S i τ n) (f : Fr D M S M' S') (d1 : D (.bx i n)) (d2 : D (.row i n)) (d3 : D (.marks i n)) (d4 : D (.words i n))
    (e1 : τ'.nm n = τ.nm n) (e2 : τ'.hold n = τ.hold n) (e3 : τ'.deep n = τ.deep n) (e4 : τ'.row n = τ.row n) (e5 : τ'.marks n = τ.marks n) (e6 : τ'.words n = τ.words n) (e7 : τ'.own n = τ.own n) : BoxAt M' S' i τ' n := by
  obtain ⟨l1, p1⟩ := f _ _ d1 h.bx
  obtain ⟨l2, p2⟩ := f _ _ d2 h.row
  obtain ⟨l3, p3⟩ := f _ _ d3 h.marks
  obtain ⟨l4, p4⟩ := f _ _ d4 h.words
  refine ⟨?_, by rw [e4]; exact p2, by rw [e5]; exact p3, by rw [e6]; exact p4⟩
  have : boxF M' i τ' n = boxF M i τ n := by
    unfold boxF
    rw [l2, l3, l4, e1, e2, e3, e7]
  rw [this]
  exact p1
theorem TreeAt.fr {D : Tag → Prop} {M M' : Mem} {S S' : Sto} {i : Nat} {τ : Tre} (h : TreeAt M S i τ) (f : Fr D M S M' S') (d : ∀ a, a.of i = true → D a) : TreeAt M' S' i τ := by
  have dd : decide (i = i) = true := decide_eq_true rfl
  obtain ⟨l1, p1⟩ := f _ _ (d (.tree i) dd) h.tree
  obtain ⟨l2, p2⟩ := f _ _ (d (.stand i) dd) h.stand
  refine ⟨by rw [l2]; exact p1, ?_, fun n hn => (h.box n hn).fr f (d (.bx i n) dd) (d (.row i n) dd) (d (.marks i n) dd) (d (.words i n) dd) rfl rfl rfl rfl rfl rfl rfl⟩
  have e : (kd τ.nums fun n => Va.loc (M'.L (.bx i n))) = kd τ.nums fun n => .loc (M.L (.bx i n)) := kd_congr fun n hn => by rw [(f _ _ (d (.bx i n) dd) (h.box n hn).bx).1]
  rw [e]
  exact p2
/-! ### the questions -/
section
variable {M : Mem} {S : Sto} {i : Nat} {τ : Tre} (t : TreeAt M S i τ) {n : Int} {P : PV} {E : PX}
include t
theorem found_ok (k : Nat) (hn : n ∈ τ.nums) (h : P (.loc (M.L (.bx i n))) S) : call Hd.T (k + 1) "Tree.found" [.loc (M.L (.tree i)), .int n] S P E := by
  refine call_def (d := Hd.f_Tree_found) rfl rfl ?_
  unfold Hd.f_Tree_found
  walk_at "am"
  refine ⟨_, t.tree.1, _, rfl, _, t.stand.1, _, rfl, ?_⟩
  rw [dget_kd_is, decide_eq_true hn]
  refine ⟨false, rfl, ?_⟩
  walk_at "am"
  refine ⟨_, t.tree.1, _, rfl, ?_⟩
  walk_at "am"
  refine ⟨_, t.stand.1, ?_⟩
  walk_at "am"
  exact ⟨_, dget_kd hn, fin_keep h⟩
theorem stands_ok (k : Nat) (h : P (.bl (decide (n ∈ τ.nums))) S) : call Hd.T (k + 1) "Tree.stands" [.loc (M.L (.tree i)), .int n] S P E := by
  refine call_def (d := Hd.f_Tree_stands) rfl rfl ?_
  unfold Hd.f_Tree_stands
  walk_at "am"
  refine ⟨_, t.tree.1, _, rfl, _, t.stand.1, _, rfl, ?_⟩
  rw [dget_kd_is]
  exact fin_keep h
theorem name_of_ok (k : Nat) (hn : n ∈ τ.nums) (h : P (.str (sx (τ.nm n))) S) : call Hd.T (k + 2) "Tree.name_of" [.loc (M.L (.tree i)), .int n] S P E := by
  refine call_def (d := Hd.f_Tree_name_of) rfl rfl ?_
  unfold Hd.f_Tree_name_of
  walk_at "am"
  refine ⟨_, t.tree.1, _, rfl, found_ok t k hn ?_⟩
  exact ⟨_, rfl, _, (t.box n hn).bx.1, _, rfl, fin_keep h⟩
theorem boxes_of_new (k : Nat) (hn : n ∈ τ.nums) (h : P (.loc S.length) (S ++ [.lst ((τ.row n).map Va.int)])) : call Hd.T (k + 2) "Tree.boxes_of" [.loc (M.L (.tree i)), .int n] S P E := by
  refine call_def (d := Hd.f_Tree_boxes_of) rfl rfl ?_
  unfold Hd.f_Tree_boxes_of
  walk_at "am"
  refine ⟨_, t.tree.1, _, rfl, found_ok t k hn ?_⟩
  refine ⟨_, rfl, _, (t.box n hn).bx.1, _, rfl, ?_⟩
  walk_at "am"
  exact ⟨_, (t.box n hn).row.1, fin_keep h⟩
theorem boxes_of_ok (k : Nat) (hn : n ∈ τ.nums) (h : P (.lst ((τ.row n).map Va.int)) S) : call Hd.T (k + 2) "Tree.boxes_of" [.loc (M.L (.tree i)), .int n] S P E := by
  refine call_def (d := Hd.f_Tree_boxes_of) rfl rfl ?_
  unfold Hd.f_Tree_boxes_of
  walk_at "am"
  refine ⟨_, t.tree.1, _, rfl, found_ok t k hn ?_⟩
  refine ⟨_, rfl, _, (t.box n hn).bx.1, _, rfl, ?_⟩
  walk_at "am"
  exact ⟨_, (t.box n hn).row.1, fin_lst0 rfl (pls_iff.mpr fun x hx => by obtain ⟨z, _, rfl⟩ := List.mem_map.mp hx; rfl) h⟩
theorem marks_of_ok (k : Nat) (hn : n ∈ τ.nums) (hm : (τ.marks n).length < 64) (h : ∀ ws : List Str, ws.Perm (τ.marks n) → PyProof.Rows.sortedS ws = true → P (.lst (ws.map Va.str)) S) : call Hd.T (k + 2) "Tree.marks_of" [.loc (M.L (.tree i)), .int n] S P E := by
  refine call_def (d := Hd.f_Tree_marks_of) rfl rfl ?_
  unfold Hd.f_Tree_marks_of
  walk_at "am"
  refine ⟨_, t.tree.1, _, rfl, found_ok t k hn ?_⟩
  refine ⟨_, rfl, _, (t.box n hn).bx.1, _, rfl, ?_⟩
  refine .inr (.inl ⟨_, τ.marks n, .inr ⟨_, rfl, (t.box n hn).marks.1⟩, by rw [List.map_map]; rfl, hm, fun ws h1 h2 => ?_⟩)
  exact fin_lst0 rfl (pls_iff.mpr fun x hx => by obtain ⟨z, _, rfl⟩ := List.mem_map.mp hx; rfl) (h ws h1 h2)
end
end TR
end

section
set_option linter.all false
set_option maxRecDepth 100000
set_option maxHeartbeats 4000000
/-! Trees made, boxes put in. -/
open PySem
namespace TR
open PySem AM NM
local macro_rules | `(tactic| walk_at "am") => `(tactic| try simp only [st_set0, st_setS, iteTrue, iteFalse, iteDec, iteNDec, exSome, exBl, W_var, W_int, W_bl, W_non, W_str, W_tup, W_lst, W_bin, W_neg, W_cmp, W_isN, W_notN, W_lrev, W_maxd, W_sortk, wIsb, wNisb, W_chain, W_chain3, W_tst, W_ite, W_call, W_len, W_abs, W_isi, W_sub, WT_val, WT_not, WT_and, WT_or, WA_one, WA_cons, WO_one, WO_cons, WB_val, WB_not, WB_and, WB_or, WBA_one, WBA_cons, WBO_one, WBO_cons, WL_nil, WL_cons, WS_set, WS_ret, WS_retN, WS_pass, WS_brk, WS_cont, WS_drop, WS_ite, WS_raise, WSs_nil, Ss_set, Ss_ret, Ss_retN, Ss_pass, Ss_brk, Ss_cont, Ss_drop, Ss_raise, Ss_ite_ret, Ss_ite_retN, Ss_ite_raise, Ss_ite_cont, Ss_ite_brk, Ss_ite_last, gt_0, gt_S, wAdd_int, wSub_int, wMul_int, wMul_rep, wMul_str, wDiv_int, wMod_int, wPow_int, wAdd_str, wNeg_int, wAbs_int, wLt_int, wLe_int, wGt_int, wGe_int, wEq_int, wNe_int, wEq_bl, wNe_bl, wEq_str, wNe_str, wLen_tup, wLen_lst, tru_bl, tru_int, ty_int_int, ty_int_bool, ty_int_str, ty_int_tuple, ty_int_list, ty_int_dict, ty_bl_int, ty_bl_bool, ty_bl_str, ty_bl_tuple, ty_bl_list, ty_bl_dict, ty_str_int, ty_str_bool, ty_str_str, ty_str_tuple, ty_str_list, ty_str_dict, ty_tup_int, ty_tup_bool, ty_tup_str, ty_tup_tuple, ty_tup_list, ty_tup_dict, ty_lst_int, ty_lst_bool, ty_lst_str, ty_lst_tuple, ty_lst_list, ty_lst_dict, ty_dct_int, ty_dct_bool, ty_dct_str, ty_dct_tuple, ty_dct_list, ty_dct_dict, ty_non, sub_tup0, sub_tup1, sub_tup2, sub_tup3, sub_tup4, sub_tup5, sub_lst0, sub_lst1, sub_lst2, sub_lst3, sub_lst4, sub_lst5, startA, List.map_cons, List.map_nil, List.length_cons, List.length_nil, List.replicate, List.cons_append, List.nil_append, true_and, and_true, ne_eq, isNon, Bool.not_true, Bool.not_false, Bool.true_or, Bool.or_true, Bool.false_or, reduceIte, Nat.reduceAdd, Nat.zero_add, Int.cast_ofNat_Int, Int.reduceEq, Int.reduceLT, Int.reduceLE, Nat.reduceLeDiff, decide_true, decide_false, not_true_eq_false, not_false_eq_true, Nat.reduceSub, Int.reduceToNat, W_slice, W_blt, W_mth, W_comp, WOe_none, WOe_some, WI_seq, WI_keys, WI_items, WI_range1, WI_range2, WI_enum, WI_zip, WI_rev, WI_revr, WI_rangeD, WT0_none, WT0_some, Ss_asg, Ss_setSub, Ss_aug, WS_asg, WS_aug, WS_for, WS_setC, bT_name, bT_tup, bT_lst, bTs_nil, bTs_name, seq_lst, seq_tup, seq_scr, seq_str, seq_loc, en_tup, en_lst, en_scr, en_loc, lst_lst, lst_scr, lst_loc, exInt, exLoc, exLst, exLst1, exLV_lst, exLV_loc, mOk_app, mOk_pop, mOk_ext, mOk_ins, mOk_ind, mOk_join, mOk_indl, m_append, m_pop, m_extend, m_insert, m_join, b_listL, b_listT, b_listS, b_listK, b_tupL, b_tupT, b_tupK, b_max2, b_min2, b_ord, b_str, sl_lst, sl_loc, sl_scr, sl_tupE, sl_strE, cat_lst, cat_loc, cat_tup, wLen_scr, wLen_loc, wLen_str, wSub_scr, wSub_loc, wSub_str, aug_add, aug_sub, tru_lst, tru_tup, tru_non, ty_scr_list, sg_p0, sg_pl, ss_p0, ss_pl, ob_set0, ob_set1, ob_set2, ob_set3, ob_g0, ob_g1, ob_g2, ob_g3, List.append_assoc, List.length_append, List.nil_append, Nat.add_zero, Nat.add_assoc, Int.reduceNeg, wipeA, orc_run, orc_glob, orc_init, orc_isa, orc_gdct, W_isc, W_isE, W_isEt, orc_xk, m_upper, m_partition, m_split, m_endswith, m_find, mOk_upper, mOk_partition, mOk_split, mOk_endswith, mOk_find, b_intB, W_glob, W_gget, W_fld, W_mcall, W_make, W_make0, W_dsp, Ss_setFld, subO_l, subO_d, subO_k, lenO_l, lenO_d, listO_l, listO_d, putO_l, keyV_int, keyV_str, wIn_str, wNotin_str, mapSome, at_0, at_1, at_2, at_3, at_4, at_5, ix_1_0, ix_2_0, ix_2_1, ix_3_0, ix_3_1, ix_3_2, ix_4_0, ix_4_1, ix_4_2, ix_4_3, va_s0, va_s1, va_s2, va_s3])
local macro_rules | `(tactic| walk_at "if") => `(tactic| (try simp only []); rw [Ss_ite]; simp only [st_set0, st_setS, iteTrue, iteFalse, iteDec, iteNDec, exSome, exBl, W_var, W_int, W_bl, W_non, W_str, W_tup, W_lst, W_bin, W_neg, W_cmp, W_isN, W_notN, W_lrev, W_maxd, W_sortk, wIsb, wNisb, W_chain, W_chain3, W_tst, W_ite, W_call, W_len, W_abs, W_isi, W_sub, WT_val, WT_not, WT_and, WT_or, WA_one, WA_cons, WO_one, WO_cons, WB_val, WB_not, WB_and, WB_or, WBA_one, WBA_cons, WBO_one, WBO_cons, WL_nil, WL_cons, WS_set, WS_ret, WS_retN, WS_pass, WS_brk, WS_cont, WS_drop, WS_ite, WS_raise, WSs_nil, Ss_set, Ss_ret, Ss_retN, Ss_pass, Ss_brk, Ss_cont, Ss_drop, Ss_raise, Ss_ite_ret, Ss_ite_retN, Ss_ite_raise, Ss_ite_cont, Ss_ite_brk, Ss_ite_last, gt_0, gt_S, wAdd_int, wSub_int, wMul_int, wMul_rep, wMul_str, wDiv_int, wMod_int, wPow_int, wAdd_str, wNeg_int, wAbs_int, wLt_int, wLe_int, wGt_int, wGe_int, wEq_int, wNe_int, wEq_bl, wNe_bl, wEq_str, wNe_str, wLen_tup, wLen_lst, tru_bl, tru_int, ty_int_int, ty_int_bool, ty_int_str, ty_int_tuple, ty_int_list, ty_int_dict, ty_bl_int, ty_bl_bool, ty_bl_str, ty_bl_tuple, ty_bl_list, ty_bl_dict, ty_str_int, ty_str_bool, ty_str_str, ty_str_tuple, ty_str_list, ty_str_dict, ty_tup_int, ty_tup_bool, ty_tup_str, ty_tup_tuple, ty_tup_list, ty_tup_dict, ty_lst_int, ty_lst_bool, ty_lst_str, ty_lst_tuple, ty_lst_list, ty_lst_dict, ty_dct_int, ty_dct_bool, ty_dct_str, ty_dct_tuple, ty_dct_list, ty_dct_dict, ty_non, sub_tup0, sub_tup1, sub_tup2, sub_tup3, sub_tup4, sub_tup5, sub_lst0, sub_lst1, sub_lst2, sub_lst3, sub_lst4, sub_lst5, startA, List.map_cons, List.map_nil, List.length_cons, List.length_nil, List.replicate, List.cons_append, List.nil_append, true_and, and_true, ne_eq, isNon, Bool.not_true, Bool.not_false, Bool.true_or, Bool.or_true, Bool.false_or, reduceIte, Nat.reduceAdd, Nat.zero_add, Int.cast_ofNat_Int, Int.reduceEq, Int.reduceLT, Int.reduceLE, Nat.reduceLeDiff, decide_true, decide_false, not_true_eq_false, not_false_eq_true, Nat.reduceSub, Int.reduceToNat, W_slice, W_blt, W_mth, W_comp, WOe_none, WOe_some, WI_seq, WI_keys, WI_items, WI_range1, WI_range2, WI_enum, WI_zip, WI_rev, WI_revr, WI_rangeD, WT0_none, WT0_some, Ss_asg, Ss_setSub, Ss_aug, WS_asg, WS_aug, WS_for, WS_setC, bT_name, bT_tup, bT_lst, bTs_nil, bTs_name, seq_lst, seq_tup, seq_scr, seq_str, seq_loc, en_tup, en_lst, en_scr, en_loc, lst_lst, lst_scr, lst_loc, exInt, exLoc, exLst, exLst1, exLV_lst, exLV_loc, mOk_app, mOk_pop, mOk_ext, mOk_ins, mOk_ind, mOk_join, mOk_indl, m_append, m_pop, m_extend, m_insert, m_join, b_listL, b_listT, b_listS, b_listK, b_tupL, b_tupT, b_tupK, b_max2, b_min2, b_ord, b_str, sl_lst, sl_loc, sl_scr, sl_tupE, sl_strE, cat_lst, cat_loc, cat_tup, wLen_scr, wLen_loc, wLen_str, wSub_scr, wSub_loc, wSub_str, aug_add, aug_sub, tru_lst, tru_tup, tru_non, ty_scr_list, sg_p0, sg_pl, ss_p0, ss_pl, ob_set0, ob_set1, ob_set2, ob_set3, ob_g0, ob_g1, ob_g2, ob_g3, List.append_assoc, List.length_append, List.nil_append, Nat.add_zero, Nat.add_assoc, Int.reduceNeg, wipeA, orc_run, orc_glob, orc_init, orc_isa, orc_gdct, W_isc, W_isE, W_isEt, orc_xk, m_upper, m_partition, m_split, m_endswith, m_find, mOk_upper, mOk_partition, mOk_split, mOk_endswith, mOk_find, b_intB, W_glob, W_gget, W_fld, W_mcall, W_make, W_make0, W_dsp, Ss_setFld, subO_l, subO_d, subO_k, lenO_l, lenO_d, listO_l, listO_d, putO_l, keyV_int, keyV_str, wIn_str, wNotin_str, mapSome, at_0, at_1, at_2, at_3, at_4, at_5, ix_1_0, ix_2_0, ix_2_1, ix_3_0, ix_3_1, ix_3_2, ix_4_0, ix_4_1, ix_4_2, ix_4_3, va_s0, va_s1, va_s2, va_s3])
theorem box_ok (k : Nat) {u v w : Va} {S : Sto} {P : PV} {E : PX} (h : P .non (S ++ [.ins "Box" [("name", u), ("holder", v), ("deep", w), ("row", .loc (S.length + 1)), ("marks", .loc (S.length + 2)), ("words", .loc (S.length + 3)), ("own", .tup [])], .lst [], .dct [], .lst []])) :
    call Hd.T (k + 1) "Box.__init__" [.loc S.length, u, v, w] (S ++ [.ins "Box" []]) P E := by
  refine call_def (d := Hd.f_Box_init) rfl rfl ?_
  unfold Hd.f_Box_init
  walk_at "am"
  exact ⟨_, rfl, _, rfl, _, rfl, _, rfl, [], rfl, by decide, _, rfl, _, rfl, _, rfl, fin_keep h⟩
/-- a tree of a root alone -/
def tre0 (cs : List Nat) : Tre := ⟨1, [0], fun _ => cs, fun _ => none, fun _ => 0, fun _ => [], fun _ => [], fun _ => [], fun _ => .tup []⟩
def mem0 (M : Mem) (i l : Nat) : Mem := ((((M.new (.tree i) l).new (.stand i) (l + 1)).new (.bx i 0) (l + 2)).new (.row i 0) (l + 3)).new (.marks i 0) (l + 4) |>.new (.words i 0) (l + 5)
theorem fr_mem0 {M : Mem} {S : Sto} {i : Nat} {N : Sto} : Fr (fun a => a.of i = false) M S (mem0 M i S.length) (S ++ N) := by
  have w : ∀ (a b : Tag), b.of i = true → a.of i = false → a ≠ b := fun a b h1 h2 e => by rw [e, h1] at h2; cases h2
  have dd : decide (i = i) = true := decide_eq_true rfl
  refine Fr.trans ?_ Fr.app
  refine Fr.trans ((Fr.new (.tree i) (Nat.le_refl _)).weak fun a h => w a _ dd h) ?_
  refine Fr.trans ((Fr.new (.stand i) (Nat.le_add_right _ 1)).weak fun a h => w a _ dd h) ?_
  refine Fr.trans ((Fr.new (.bx i 0) (Nat.le_add_right _ 2)).weak fun a h => w a _ dd h) ?_
  refine Fr.trans ((Fr.new (.row i 0) (Nat.le_add_right _ 3)).weak fun a h => w a _ dd h) ?_
  refine Fr.trans ((Fr.new (.marks i 0) (Nat.le_add_right _ 4)).weak fun a h => w a _ dd h) ?_
  exact (Fr.new (.words i 0) (Nat.le_add_right _ 5)).weak fun a h => w a _ dd h
theorem made_ok (k : Nat) (i : Nat) (M : Mem) {cs : List Nat} (hc : Nm cs) {S : Sto} {P : PV} {E : PX} (h : ∀ M' S', TreeAt M' S' i (tre0 cs) → Fr (fun a => a.of i = false) M S M' S' → M'.L (.tree i) = S.length → P .non S') :
    call Hd.T (k + 2) "Tree.__init__" [.loc S.length, .str (sx cs)] (S ++ [.ins "Tree" []]) P E := by
  refine call_def (d := Hd.f_Tree_init) rfl rfl ?_
  unfold Hd.f_Tree_init
  walk_at "am"
  refine isname_ok _ cs hc ?_
  walk_at "am"
  refine ⟨"Box.__init__", rfl, ?_⟩
  have e1 : S.length + 2 = (S ++ [Ob.ins "Tree" [], Ob.dct []]).length := by simp
  rw [e1]
  have e2 : S ++ [Ob.ins "Tree" [], Ob.dct [], Ob.ins "Box" []] = (S ++ [Ob.ins "Tree" [], Ob.dct []]) ++ [Ob.ins "Box" []] := by simp
  rw [e2]
  refine box_ok _ ?_
  walk_at "am"
  refine ⟨_, rfl, by simp, _, rfl, _, rfl, fin_keep (h (mem0 M i S.length) _ ?_ fr_mem0 (by simp [mem0, Mem.new]))⟩
  refine ⟨⟨?_, by simp [mem0, Mem.new]⟩, ⟨?_, by simp [mem0, Mem.new]⟩, ?_⟩
  · simp [mem0, Mem.new, tre0]; rfl
  · simp [mem0, Mem.new, tre0]; rfl
  · intro n hn
    have en : n = 0 := by simpa [tre0] using hn
    subst en
    refine ⟨⟨?_, by simp [mem0, Mem.new]⟩, ⟨?_, by simp [mem0, Mem.new]⟩, ⟨?_, by simp [mem0, Mem.new]⟩, ⟨?_, by simp [mem0, Mem.new]⟩⟩
    · simp [mem0, Mem.new, tre0, boxF, hv]
    · simp [mem0, Mem.new, tre0]
    · simp [mem0, Mem.new, tre0]
    · simp [mem0, Mem.new, tre0]
/-! ### a box put in -/
def insAt (xs : List Int) (p : Nat) (n : Int) : List Int := xs.take p ++ [n] ++ xs.drop p
def Tre.put (τ : Tre) (h : Int) (p : Nat) (cs : List Nat) : Tre :=
  ⟨τ.coming + 1, τ.nums ++ [τ.coming], up τ.nm τ.coming cs, up τ.hold τ.coming (some h), up τ.deep τ.coming (τ.deep h + 1), up (up τ.row h (insAt (τ.row h) p τ.coming)) τ.coming [], up τ.marks τ.coming [], up τ.words τ.coming [], up τ.own τ.coming (.tup [])⟩
def mem1 (M : Mem) (i : Nat) (n : Int) (l : Nat) : Mem := (((M.new (.bx i n) l).new (.row i n) (l + 1)).new (.marks i n) (l + 2)).new (.words i n) (l + 3)
/-- a tag of box n -/
def Tag.box (i : Nat) (n : Int) (a : Tag) : Prop := a = .bx i n ∨ a = .row i n ∨ a = .marks i n ∨ a = .words i n
theorem mem1_L {M : Mem} {i : Nat} {n : Int} {l : Nat} {a : Tag} (h : ¬ a.box i n) : (mem1 M i n l).L a = M.L a := by
  unfold mem1
  rw [new_ne (fun e => h (.inr (.inr (.inr e)))), new_ne (fun e => h (.inr (.inr (.inl e)))), new_ne (fun e => h (.inr (.inl e))), new_ne (fun e => h (.inl e))]
theorem fr_mem1 {M : Mem} {S : Sto} {i : Nat} {n : Int} {N : Sto} {l : Nat} (hl : S.length = l) : Fr (fun a => ¬ a.box i n) M S (mem1 M i n l) (S ++ N) := by
  subst hl
  refine Fr.trans ?_ Fr.app
  refine Fr.trans ((Fr.new (.bx i n) (Nat.le_refl _)).weak fun a h e => h (.inl e)) ?_
  refine Fr.trans ((Fr.new (.row i n) (Nat.le_add_right _ 1)).weak fun a h e => h (.inr (.inl e))) ?_
  refine Fr.trans ((Fr.new (.marks i n) (Nat.le_add_right _ 2)).weak fun a h e => h (.inr (.inr (.inl e)))) ?_
  exact (Fr.new (.words i n) (Nat.le_add_right _ 3)).weak fun a h e => h (.inr (.inr (.inr e)))
section
variable {M : Mem} {S : Sto} {i : Nat} {τ : Tre} (t : TreeAt M S i τ) {P : PV} {E : PX}
include t
theorem put_ok (k : Nat) {h : Int} {p : Nat} {cs : List Nat} (hh : h ∈ τ.nums) (hp : p ≤ (τ.row h).length) (hr : (τ.row h).length < 1000) (hc : Nm cs) (hl : τ.nums.length < 90) (hd : τ.deep h < 12) (hco : τ.coming ∉ τ.nums)
    (hP : ∀ M' S', TreeAt M' S' i (τ.put h p cs) → Fr (fun a => a.of i = false) M S M' S' → (∀ a : Tag, ¬ a.box i τ.coming → M'.L a = M.L a) → P (.int τ.coming) S') :
    call Hd.T (k + 2) "Tree.put" [.loc (M.L (.tree i)), .int h, .int (p : Nat), .str (sx cs)] S P E := by
  refine call_def (d := Hd.f_Tree_put) rfl rfl ?_
  unfold Hd.f_Tree_put
  walk_at "am"
  refine ⟨_, t.tree.1, _, rfl, found_ok t k hh ?_⟩
  walk_at "am"
  rw [if_pos (Int.natCast_nonneg p)]
  refine ⟨_, (t.box h hh).bx.1, _, rfl, ?_⟩
  walk_at "am"
  refine ⟨_, (t.box h hh).row.1, ?_⟩
  walk_at "am"
  rw [if_pos (by simp; omega)]
  refine isname_ok _ cs hc ?_
  walk_at "am"
  refine ⟨_, t.tree.1, _, rfl, ?_⟩
  walk_at "am"
  refine ⟨_, t.stand.1, ?_⟩
  walk_at "am"
  refine ⟨.int 90, rfl, ?_⟩
  walk_at "am"
  rw [if_neg (by rw [kd_len]; omega)]
  refine ⟨_, (t.box h hh).bx.1, _, rfl, .int 12, rfl, ?_⟩
  walk_at "am"
  rw [if_neg (by omega)]
  walk_at "am"
  refine ⟨_, t.tree.1, _, rfl, ?_⟩
  walk_at "am"
  obtain ⟨S1, hS1⟩ : ∃ S1, S1 = S.set (M.L (.tree i)) (.ins "Tree" [("standing", .loc (M.L (.stand i))), ("coming", .int (τ.coming + 1))]) := ⟨_, rfl⟩
  have f1 : Fr (· ≠ .tree i) M S M S1 := by rw [hS1]; exact Fr.set t.tree _
  have t1 : Pt M S1 (.tree i) (.ins "Tree" [("standing", .loc (M.L (.stand i))), ("coming", .int (τ.coming + 1))]) := by rw [hS1]; exact t.tree.here
  have s1 := (f1 (.stand i) _ (by simp) t.stand).2
  have b1 := (f1 (.bx i h) _ (by simp) (t.box h hh).bx).2
  have r1 := (f1 (.row i h) _ (by simp) (t.box h hh).row).2
  refine ⟨_, t.tree.1, _, rfl, "Box.__init__", rfl, ?_⟩
  show ∃ ob, (S.set (M.L (.tree i)) (.ins "Tree" [("standing", .loc (M.L (.stand i))), ("coming", .int (τ.coming + 1))]))[M.L (.bx i h)]? = some ob ∧ _
  rw [show S.set (M.L (.tree i)) (.ins "Tree" (putFA "coming" (.int (τ.coming + 1)) [("standing", .loc (M.L (.stand i))), ("coming", .int τ.coming)])) = S1 from hS1.symm, ← hS1]
  refine ⟨_, b1.1, _, rfl, ?_⟩
  walk_at "am"
  refine box_ok _ ?_
  obtain ⟨N, hN⟩ : ∃ N : Sto, N = [Ob.ins "Box" [("name", .str (sx cs)), ("holder", .int h), ("deep", .int (τ.deep h + 1)), ("row", .loc (S1.length + 1)), ("marks", .loc (S1.length + 2)), ("words", .loc (S1.length + 3)), ("own", .tup [])], .lst [], .dct [], .lst []] := ⟨_, rfl⟩
  rw [← hN]
  refine ⟨rfl, ?_⟩
  refine ⟨_, t1.app.1, _, rfl, _, rfl, ?_⟩
  refine ⟨_, s1.app.1, _, putO_d rfl (by rw [kd_len]; omega), ?_⟩
  refine ⟨_, (b1.app.set s1 (by simp)).1, _, rfl, ?_⟩
  have r2 := (r1.app (N := N)).set s1 (by simp) (w := .dct (dput (kd τ.nums fun n => .loc (M.L (.bx i n))) (.inl τ.coming) (.loc S1.length)))
  refine ⟨⟨_, .inr ⟨_, rfl, r2.1⟩⟩, ?_⟩
  refine ⟨_, r2.1, by simp; omega, Int.natCast_nonneg p, by omega, ?_⟩
  refine fin_keep ?_
  have nt : ∀ {a : Tag}, a.of i = false → ¬ a.box i τ.coming := fun {a} z => by
    rintro (rfl | rfl | rfl | rfl) <;> simp [Tag.of] at z
  have f2 : Fr (fun a => ¬ a.box i τ.coming) M S1 (mem1 M i τ.coming S1.length) (S1 ++ N) := fr_mem1 rfl
  obtain ⟨e1, t2⟩ := f2 _ _ (by simp [Tag.box]) t1
  obtain ⟨e2, s2⟩ := f2 _ _ (by simp [Tag.box]) s1
  have nh : h ≠ τ.coming := fun z => hco (z ▸ hh)
  obtain ⟨e3, r3⟩ := f2 _ _ (by simp [Tag.box, nh]) r1
  rw [← e2, ← e3]
  have f3 := Fr.set s2 (.dct (dput (kd τ.nums fun n => .loc (M.L (.bx i n))) (.inl τ.coming) (.loc S1.length)))
  have r4 := (f3 _ _ (by simp) r3).2
  have f4 := Fr.set r4 (.lst (List.take (p : Int).toNat ((τ.row h).map Va.int) ++ [.int τ.coming] ++ List.drop (p : Int).toNat ((τ.row h).map Va.int)))
  have F : Fr (fun a => a ≠ .tree i ∧ ¬ a.box i τ.coming ∧ a ≠ .stand i ∧ a ≠ .row i h) M S _ _ := ((f1.weak fun a z => z.1).trans (f2.weak fun a z => z.2.1)).trans ((f3.weak fun a z => z.2.2.1).trans (f4.weak fun a z => z.2.2.2))
  refine hP (mem1 M i τ.coming S1.length) _ ⟨?_, ?_, ?_⟩ (F.weak fun a z => ⟨fun e => by subst e; simp [Tag.of] at z, nt z, fun e => by subst e; simp [Tag.of] at z, fun e => by subst e; simp [Tag.of] at z⟩) (fun a ha => mem1_L ha)
  · have := (f4 _ _ (by simp) (f3 _ _ (by simp) t2).2).2
    rw [← e2] at this
    exact this
  · have := (f4 _ _ (by simp) s2.here).2
    have e5 : (kd (τ.put h p cs).nums fun n => Va.loc ((mem1 M i τ.coming S1.length).L (.bx i n))) = kd τ.nums (fun n => .loc (M.L (.bx i n))) ++ [(.inl τ.coming, .loc S1.length)] := by
      show kd (τ.nums ++ [τ.coming]) _ = _
      rw [kd_snoc]
      congr 1
      · refine kd_congr fun n hn => ?_
        have : n ≠ τ.coming := fun z => hco (z ▸ hn)
        simp [mem1, Mem.new, this]
      · simp [mem1, Mem.new]
    rw [e5, ← dput_new hco]
    exact this
  · intro n hn
    rcases List.mem_append.mp hn with hm | hm
    · have nn : n ≠ τ.coming := fun z => hco (z ▸ hm)
      by_cases e : n = h
      · subst e
        have B := t.box n hm
        have g : ∀ a o, a ≠ .tree i ∧ ¬ a.box i τ.coming ∧ a ≠ .stand i ∧ a ≠ .row i n → Pt M S a o → _ := F
        obtain ⟨l1, p1⟩ := F _ _ (by simp [Tag.box, nn]) B.bx
        obtain ⟨l3, p3⟩ := F _ _ (by simp [Tag.box, nn]) B.marks
        obtain ⟨l4, p4⟩ := F _ _ (by simp [Tag.box, nn]) B.words
        have p2 := r4.here (w := .lst (List.take (p : Int).toNat ((τ.row n).map Va.int) ++ [.int τ.coming] ++ List.drop (p : Int).toNat ((τ.row n).map Va.int)))
        refine ⟨?_, ?_, ?_, ?_⟩
        · have : boxF (mem1 M i τ.coming S1.length) i (τ.put n p cs) n = boxF M i τ n := by
            unfold boxF
            rw [l3, l4, e3]
            simp [Tre.put, up_ne nn]
          rw [this]; exact p1
        · have : ((τ.put n p cs).row n).map Va.int = List.take (p : Int).toNat ((τ.row n).map Va.int) ++ [.int τ.coming] ++ List.drop (p : Int).toNat ((τ.row n).map Va.int) := by
            simp [Tre.put, up_ne nn, up_eq, insAt, List.map_take, List.map_drop]
          rw [this]; exact p2
        · have : (τ.put n p cs).marks n = τ.marks n := up_ne nn
          rw [this]; exact p3
        · have : (τ.put n p cs).words n = τ.words n := up_ne nn
          rw [this]; exact p4
      · exact (t.box n hm).fr F (by simp [Tag.box, nn]) (by simp [Tag.box, nn, e]) (by simp [Tag.box, nn]) (by simp [Tag.box, nn]) (up_ne nn) (up_ne nn) (up_ne nn) ((up_ne nn).trans (up_ne e)) (up_ne nn) (up_ne nn) (up_ne nn)
    · have en : n = τ.coming := by simpa using hm
      subst en
      have key : ∀ (a : Tag) (o : Ob) (j : Nat), a.box i τ.coming → (mem1 M i τ.coming S1.length).L a = S1.length + j → (mem1 M i τ.coming S1.length).own (S1.length + j) = some a → N[j]? = some o → Pt (mem1 M i τ.coming S1.length) (S1 ++ N) a o := fun a o j hb l w e => .mk l (by rw [sg_pl]; exact e) w
      have fin : ∀ a o, a.box i τ.coming → Pt (mem1 M i τ.coming S1.length) (S1 ++ N) a o → _ := fun a o hb q => (f4 a o (by rintro rfl; simp [Tag.box, nh] at hb) (f3 a o (by rintro rfl; simp [Tag.box] at hb) q).2).2
      refine ⟨fin _ _ (.inl rfl) (key _ _ 0 (.inl rfl) (by simp [mem1, Mem.new]) (by simp [mem1, Mem.new]) ?_), fin _ _ (.inr (.inl rfl)) (key _ _ 1 (.inr (.inl rfl)) (by simp [mem1, Mem.new]) (by simp [mem1, Mem.new]) ?_), fin _ _ (.inr (.inr (.inl rfl))) (key _ _ 2 (.inr (.inr (.inl rfl))) (by simp [mem1, Mem.new]) (by simp [mem1, Mem.new]) ?_), fin _ _ (.inr (.inr (.inr rfl))) (key _ _ 3 (.inr (.inr (.inr rfl))) (by simp [mem1, Mem.new]) (by simp [mem1, Mem.new]) ?_)⟩
      · rw [hN]
        simp [boxF, Tre.put, up_eq, mem1, Mem.new, hv]
      · rw [hN]; simp [Tre.put, up_eq]
      · rw [hN]; simp [Tre.put, up_eq]
      · rw [hN]; simp [Tre.put, up_eq]
end
end TR
end

section
set_option linter.all false
set_option maxRecDepth 100000
set_option maxHeartbeats 4000000
/-! Trees: what is sound of one; the law's own side. -/
open PySem
namespace TR
open PySem AM NM
local macro_rules | `(tactic| walk_at "am") => `(tactic| try simp only [st_set0, st_setS, iteTrue, iteFalse, iteDec, iteNDec, exSome, exBl, W_var, W_int, W_bl, W_non, W_str, W_tup, W_lst, W_bin, W_neg, W_cmp, W_isN, W_notN, W_lrev, W_maxd, W_sortk, wIsb, wNisb, W_chain, W_chain3, W_tst, W_ite, W_call, W_len, W_abs, W_isi, W_sub, WT_val, WT_not, WT_and, WT_or, WA_one, WA_cons, WO_one, WO_cons, WB_val, WB_not, WB_and, WB_or, WBA_one, WBA_cons, WBO_one, WBO_cons, WL_nil, WL_cons, WS_set, WS_ret, WS_retN, WS_pass, WS_brk, WS_cont, WS_drop, WS_ite, WS_raise, WSs_nil, Ss_set, Ss_ret, Ss_retN, Ss_pass, Ss_brk, Ss_cont, Ss_drop, Ss_raise, Ss_ite_ret, Ss_ite_retN, Ss_ite_raise, Ss_ite_cont, Ss_ite_brk, Ss_ite_last, gt_0, gt_S, wAdd_int, wSub_int, wMul_int, wMul_rep, wMul_str, wDiv_int, wMod_int, wPow_int, wAdd_str, wNeg_int, wAbs_int, wLt_int, wLe_int, wGt_int, wGe_int, wEq_int, wNe_int, wEq_bl, wNe_bl, wEq_str, wNe_str, wLen_tup, wLen_lst, tru_bl, tru_int, ty_int_int, ty_int_bool, ty_int_str, ty_int_tuple, ty_int_list, ty_int_dict, ty_bl_int, ty_bl_bool, ty_bl_str, ty_bl_tuple, ty_bl_list, ty_bl_dict, ty_str_int, ty_str_bool, ty_str_str, ty_str_tuple, ty_str_list, ty_str_dict, ty_tup_int, ty_tup_bool, ty_tup_str, ty_tup_tuple, ty_tup_list, ty_tup_dict, ty_lst_int, ty_lst_bool, ty_lst_str, ty_lst_tuple, ty_lst_list, ty_lst_dict, ty_dct_int, ty_dct_bool, ty_dct_str, ty_dct_tuple, ty_dct_list, ty_dct_dict, ty_non, sub_tup0, sub_tup1, sub_tup2, sub_tup3, sub_tup4, sub_tup5, sub_lst0, sub_lst1, sub_lst2, sub_lst3, sub_lst4, sub_lst5, startA, List.map_cons, List.map_nil, List.length_cons, List.length_nil, List.replicate, List.cons_append, List.nil_append, true_and, and_true, ne_eq, isNon, Bool.not_true, Bool.not_false, Bool.true_or, Bool.or_true, Bool.false_or, reduceIte, Nat.reduceAdd, Nat.zero_add, Int.cast_ofNat_Int, Int.reduceEq, Int.reduceLT, Int.reduceLE, Nat.reduceLeDiff, decide_true, decide_false, not_true_eq_false, not_false_eq_true, Nat.reduceSub, Int.reduceToNat, W_slice, W_blt, W_mth, W_comp, WOe_none, WOe_some, WI_seq, WI_keys, WI_items, WI_range1, WI_range2, WI_enum, WI_zip, WI_rev, WI_revr, WI_rangeD, WT0_none, WT0_some, Ss_asg, Ss_setSub, Ss_aug, WS_asg, WS_aug, WS_for, WS_setC, bT_name, bT_tup, bT_lst, bTs_nil, bTs_name, seq_lst, seq_tup, seq_scr, seq_str, seq_loc, en_tup, en_lst, en_scr, en_loc, lst_lst, lst_scr, lst_loc, exInt, exLoc, exLst, exLst1, exLV_lst, exLV_loc, mOk_app, mOk_pop, mOk_ext, mOk_ins, mOk_ind, mOk_join, mOk_indl, m_append, m_pop, m_extend, m_insert, m_join, b_listL, b_listT, b_listS, b_listK, b_tupL, b_tupT, b_tupK, b_max2, b_min2, b_ord, b_str, sl_lst, sl_loc, sl_scr, sl_tupE, sl_strE, cat_lst, cat_loc, cat_tup, wLen_scr, wLen_loc, wLen_str, wSub_scr, wSub_loc, wSub_str, aug_add, aug_sub, tru_lst, tru_tup, tru_non, ty_scr_list, sg_p0, sg_pl, ss_p0, ss_pl, ob_set0, ob_set1, ob_set2, ob_set3, ob_g0, ob_g1, ob_g2, ob_g3, List.append_assoc, List.length_append, List.nil_append, Nat.add_zero, Nat.add_assoc, Int.reduceNeg, wipeA, orc_run, orc_glob, orc_init, orc_isa, orc_gdct, W_isc, W_isE, W_isEt, orc_xk, m_upper, m_partition, m_split, m_endswith, m_find, mOk_upper, mOk_partition, mOk_split, mOk_endswith, mOk_find, b_intB, W_glob, W_gget, W_fld, W_mcall, W_make, W_make0, W_dsp, Ss_setFld, subO_l, subO_d, subO_k, lenO_l, lenO_d, listO_l, listO_d, putO_l, keyV_int, keyV_str, wIn_str, wNotin_str, mapSome, at_0, at_1, at_2, at_3, at_4, at_5, ix_1_0, ix_2_0, ix_2_1, ix_3_0, ix_3_1, ix_3_2, ix_4_0, ix_4_1, ix_4_2, ix_4_3, va_s0, va_s1, va_s2, va_s3])
local macro_rules | `(tactic| walk_at "if") => `(tactic| (try simp only []); rw [Ss_ite]; simp only [st_set0, st_setS, iteTrue, iteFalse, iteDec, iteNDec, exSome, exBl, W_var, W_int, W_bl, W_non, W_str, W_tup, W_lst, W_bin, W_neg, W_cmp, W_isN, W_notN, W_lrev, W_maxd, W_sortk, wIsb, wNisb, W_chain, W_chain3, W_tst, W_ite, W_call, W_len, W_abs, W_isi, W_sub, WT_val, WT_not, WT_and, WT_or, WA_one, WA_cons, WO_one, WO_cons, WB_val, WB_not, WB_and, WB_or, WBA_one, WBA_cons, WBO_one, WBO_cons, WL_nil, WL_cons, WS_set, WS_ret, WS_retN, WS_pass, WS_brk, WS_cont, WS_drop, WS_ite, WS_raise, WSs_nil, Ss_set, Ss_ret, Ss_retN, Ss_pass, Ss_brk, Ss_cont, Ss_drop, Ss_raise, Ss_ite_ret, Ss_ite_retN, Ss_ite_raise, Ss_ite_cont, Ss_ite_brk, Ss_ite_last, gt_0, gt_S, wAdd_int, wSub_int, wMul_int, wMul_rep, wMul_str, wDiv_int, wMod_int, wPow_int, wAdd_str, wNeg_int, wAbs_int, wLt_int, wLe_int, wGt_int, wGe_int, wEq_int, wNe_int, wEq_bl, wNe_bl, wEq_str, wNe_str, wLen_tup, wLen_lst, tru_bl, tru_int, ty_int_int, ty_int_bool, ty_int_str, ty_int_tuple, ty_int_list, ty_int_dict, ty_bl_int, ty_bl_bool, ty_bl_str, ty_bl_tuple, ty_bl_list, ty_bl_dict, ty_str_int, ty_str_bool, ty_str_str, ty_str_tuple, ty_str_list, ty_str_dict, ty_tup_int, ty_tup_bool, ty_tup_str, ty_tup_tuple, ty_tup_list, ty_tup_dict, ty_lst_int, ty_lst_bool, ty_lst_str, ty_lst_tuple, ty_lst_list, ty_lst_dict, ty_dct_int, ty_dct_bool, ty_dct_str, ty_dct_tuple, ty_dct_list, ty_dct_dict, ty_non, sub_tup0, sub_tup1, sub_tup2, sub_tup3, sub_tup4, sub_tup5, sub_lst0, sub_lst1, sub_lst2, sub_lst3, sub_lst4, sub_lst5, startA, List.map_cons, List.map_nil, List.length_cons, List.length_nil, List.replicate, List.cons_append, List.nil_append, true_and, and_true, ne_eq, isNon, Bool.not_true, Bool.not_false, Bool.true_or, Bool.or_true, Bool.false_or, reduceIte, Nat.reduceAdd, Nat.zero_add, Int.cast_ofNat_Int, Int.reduceEq, Int.reduceLT, Int.reduceLE, Nat.reduceLeDiff, decide_true, decide_false, not_true_eq_false, not_false_eq_true, Nat.reduceSub, Int.reduceToNat, W_slice, W_blt, W_mth, W_comp, WOe_none, WOe_some, WI_seq, WI_keys, WI_items, WI_range1, WI_range2, WI_enum, WI_zip, WI_rev, WI_revr, WI_rangeD, WT0_none, WT0_some, Ss_asg, Ss_setSub, Ss_aug, WS_asg, WS_aug, WS_for, WS_setC, bT_name, bT_tup, bT_lst, bTs_nil, bTs_name, seq_lst, seq_tup, seq_scr, seq_str, seq_loc, en_tup, en_lst, en_scr, en_loc, lst_lst, lst_scr, lst_loc, exInt, exLoc, exLst, exLst1, exLV_lst, exLV_loc, mOk_app, mOk_pop, mOk_ext, mOk_ins, mOk_ind, mOk_join, mOk_indl, m_append, m_pop, m_extend, m_insert, m_join, b_listL, b_listT, b_listS, b_listK, b_tupL, b_tupT, b_tupK, b_max2, b_min2, b_ord, b_str, sl_lst, sl_loc, sl_scr, sl_tupE, sl_strE, cat_lst, cat_loc, cat_tup, wLen_scr, wLen_loc, wLen_str, wSub_scr, wSub_loc, wSub_str, aug_add, aug_sub, tru_lst, tru_tup, tru_non, ty_scr_list, sg_p0, sg_pl, ss_p0, ss_pl, ob_set0, ob_set1, ob_set2, ob_set3, ob_g0, ob_g1, ob_g2, ob_g3, List.append_assoc, List.length_append, List.nil_append, Nat.add_zero, Nat.add_assoc, Int.reduceNeg, wipeA, orc_run, orc_glob, orc_init, orc_isa, orc_gdct, W_isc, W_isE, W_isEt, orc_xk, m_upper, m_partition, m_split, m_endswith, m_find, mOk_upper, mOk_partition, mOk_split, mOk_endswith, mOk_find, b_intB, W_glob, W_gget, W_fld, W_mcall, W_make, W_make0, W_dsp, Ss_setFld, subO_l, subO_d, subO_k, lenO_l, lenO_d, listO_l, listO_d, putO_l, keyV_int, keyV_str, wIn_str, wNotin_str, mapSome, at_0, at_1, at_2, at_3, at_4, at_5, ix_1_0, ix_2_0, ix_2_1, ix_3_0, ix_3_1, ix_3_2, ix_4_0, ix_4_1, ix_4_2, ix_4_3, va_s0, va_s1, va_s2, va_s3])
/-! ### sound trees -/
structure WF (τ : Tre) : Prop where
  nd : τ.nums.Nodup
  z : 0 ∈ τ.nums
  lt : ∀ n ∈ τ.nums, 0 ≤ n ∧ n < τ.coming
  h0 : τ.hold 0 = none
  d0 : τ.deep 0 = 0
  up : ∀ n ∈ τ.nums, n ≠ 0 → ∃ h, τ.hold n = some h ∧ h ∈ τ.nums ∧ n ∈ τ.row h ∧ τ.deep n = τ.deep h + 1
  rnd : ∀ h ∈ τ.nums, (τ.row h).Nodup
  row : ∀ h ∈ τ.nums, ∀ n ∈ τ.row h, n ∈ τ.nums ∧ τ.hold n = some h
  nm : ∀ n ∈ τ.nums, Nm (τ.nm n)
  dp : ∀ n ∈ τ.nums, τ.deep n ≤ 12
theorem WF.co {τ : Tre} (w : WF τ) : τ.coming ∉ τ.nums := fun h => by have := (w.lt _ h).2; omega
theorem WF.c1 {τ : Tre} (w : WF τ) : 1 ≤ τ.coming := by have := (w.lt _ w.z).2; omega
theorem WF.ne0 {τ : Tre} (w : WF τ) {h n : Int} (hh : h ∈ τ.nums) (hn : n ∈ τ.row h) : n ≠ 0 := fun e => by
  have := (w.row h hh n hn).2
  rw [e, w.h0] at this
  cases this
theorem nodup_sub {xs ys : List Int} (h : xs.Nodup) (s : ∀ x ∈ xs, x ∈ ys) : xs.length ≤ ys.length := by
  induction xs generalizing ys with
  | nil => exact Nat.zero_le _
  | cons x xs ih =>
    obtain ⟨h1, h2⟩ := List.nodup_cons.mp h
    have hx := s x List.mem_cons_self
    have := ih (ys := ys.erase x) h2 fun y hy => (List.mem_erase_of_ne (fun (e : y = x) => h1 (by rw [← e]; exact hy))).mpr (s y (List.mem_cons_of_mem _ hy))
    rw [List.length_erase_of_mem hx] at this
    have := List.length_pos_of_mem hx
    rw [List.length_cons]; omega
theorem WF.rlen {τ : Tre} (w : WF τ) {h : Int} (hh : h ∈ τ.nums) : (τ.row h).length ≤ τ.nums.length := nodup_sub (w.rnd h hh) fun n hn => (w.row h hh n hn).1
theorem mem_ins {xs : List Int} {p : Nat} {n m : Int} : m ∈ insAt xs p n ↔ m = n ∨ m ∈ xs := by
  unfold insAt
  rw [List.mem_append, List.mem_append, List.mem_singleton]
  constructor
  · rintro ((h | h) | h)
    · exact .inr (List.mem_of_mem_take h)
    · exact .inl h
    · exact .inr (List.mem_of_mem_drop h)
  · rintro (h | h)
    · exact .inl (.inr h)
    · rw [← List.take_append_drop p xs] at h
      rcases List.mem_append.mp h with h | h
      · exact .inl (.inl h)
      · exact .inr h
theorem nd_ins {xs : List Int} {p : Nat} {n : Int} (h : xs.Nodup) (hn : n ∉ xs) : (insAt xs p n).Nodup := by
  have hp : (insAt xs p n).Perm (n :: xs) := by
    unfold insAt
    have h1 : (xs.take p ++ [n] ++ xs.drop p).Perm ([n] ++ xs.take p ++ xs.drop p) := (List.perm_append_comm (l₁ := xs.take p) (l₂ := [n])).append_right _
    rw [List.append_assoc [n], List.take_append_drop] at h1
    exact h1
  exact hp.nodup_iff.mpr (List.nodup_cons.mpr ⟨hn, h⟩)
theorem len_ins {xs : List Int} {p : Nat} {n : Int} : (insAt xs p n).length = xs.length + 1 := by
  have : (xs.take p).length + (xs.drop p).length = xs.length := by rw [← List.length_append, List.take_append_drop]
  unfold insAt
  rw [List.length_append, List.length_append, List.length_singleton]; omega
theorem wf0 {cs : List Nat} (h : Nm cs) : WF (tre0 cs) where
  nd := by simp [tre0]
  z := by simp [tre0]
  lt := by simp [tre0]
  h0 := rfl
  d0 := rfl
  up := fun n hn h0 => absurd (by simpa [tre0] using hn) h0
  rnd := by simp [tre0]
  row := by simp [tre0]
  nm := fun _ _ => h
  dp := by simp [tre0]
theorem WF.put {τ : Tre} (w : WF τ) {h : Int} {p : Nat} {cs : List Nat} (hh : h ∈ τ.nums) (hd : τ.deep h < 12) (hc : Nm cs) : WF (τ.put h p cs) := by
  have nc : ∀ n ∈ τ.nums, n ≠ τ.coming := fun n hn e => w.co (e ▸ hn)
  have c1 := w.c1
  refine ⟨?_, List.mem_append_left _ w.z, ?_, (up_ne (by omega)).trans w.h0, (up_ne (by omega)).trans w.d0, ?_, ?_, ?_, ?_, ?_⟩
  · show (τ.nums ++ [τ.coming]).Nodup
    rw [List.nodup_append]
    exact ⟨w.nd, by simp, fun a ha b hb e => by
      rw [List.mem_singleton.mp hb] at e
      exact nc a ha e⟩
  · intro n hn
    show 0 ≤ n ∧ n < τ.coming + 1
    rcases List.mem_append.mp hn with hm | hm
    · have := w.lt n hm; omega
    · rw [List.mem_singleton.mp hm]; omega
  · intro n hn n0
    rcases List.mem_append.mp hn with hm | hm
    · obtain ⟨g, g1, g2, g3, g4⟩ := w.up n hm n0
      refine ⟨g, (up_ne (nc n hm)).trans g1, List.mem_append_left _ g2, ?_, ?_⟩
      · show n ∈ TR.up (TR.up τ.row h _) τ.coming [] g
        rw [up_ne (nc g g2)]
        by_cases e : g = h
        · subst e; rw [up_eq]; exact mem_ins.mpr (.inr g3)
        · rw [up_ne e]; exact g3
      · show TR.up τ.deep τ.coming _ n = TR.up τ.deep τ.coming _ g + 1
        rw [up_ne (nc n hm), up_ne (nc g g2)]; exact g4
    · rw [List.mem_singleton.mp hm]
      refine ⟨h, up_eq, List.mem_append_left _ hh, ?_, ?_⟩
      · show _ ∈ TR.up (TR.up τ.row h _) τ.coming [] h
        rw [up_ne (nc h hh), up_eq]; exact mem_ins.mpr (.inl rfl)
      · show TR.up τ.deep τ.coming _ τ.coming = TR.up τ.deep τ.coming _ h + 1
        rw [up_eq, up_ne (nc h hh)]
  · intro g hg
    show (TR.up (TR.up τ.row h _) τ.coming [] g).Nodup
    rcases List.mem_append.mp hg with hm | hm
    · rw [up_ne (nc g hm)]
      by_cases e : g = h
      · subst e; rw [up_eq]
        exact nd_ins (w.rnd g hm) fun z => nc _ (w.row g hm _ z).1 rfl
      · rw [up_ne e]; exact w.rnd g hm
    · rw [List.mem_singleton.mp hm, up_eq]; exact List.nodup_nil
  · intro g hg n hn
    replace hn : n ∈ TR.up (TR.up τ.row h (insAt (τ.row h) p τ.coming)) τ.coming [] g := hn
    show n ∈ τ.nums ++ [τ.coming] ∧ TR.up τ.hold τ.coming (some h) n = some g
    rcases List.mem_append.mp hg with hm | hm
    · rw [up_ne (nc g hm)] at hn
      by_cases e : g = h
      · subst e
        rw [up_eq] at hn
        rcases mem_ins.mp hn with z | z
        · rw [z, up_eq]; exact ⟨List.mem_append_right _ List.mem_cons_self, rfl⟩
        · obtain ⟨z1, z2⟩ := w.row g hm n z
          rw [up_ne (nc n z1)]
          exact ⟨List.mem_append_left _ z1, z2⟩
      · rw [up_ne e] at hn
        obtain ⟨z1, z2⟩ := w.row g hm n hn
        rw [up_ne (nc n z1)]
        exact ⟨List.mem_append_left _ z1, z2⟩
    · rw [List.mem_singleton.mp hm, up_eq] at hn; cases hn
  · intro n hn
    show Nm (TR.up τ.nm τ.coming cs n)
    rcases List.mem_append.mp hn with hm | hm
    · rw [up_ne (nc n hm)]; exact w.nm n hm
    · rw [List.mem_singleton.mp hm, up_eq]; exact hc
  · intro n hn
    show TR.up τ.deep τ.coming _ n ≤ 12
    rcases List.mem_append.mp hn with hm | hm
    · rw [up_ne (nc n hm)]; exact w.dp n hm
    · rw [List.mem_singleton.mp hm, up_eq]; omega
theorem put_nums {τ : Tre} {h : Int} {p : Nat} {cs : List Nat} : (τ.put h p cs).nums.length = τ.nums.length + 1 := by
  show (τ.nums ++ [τ.coming]).length = _
  simp
/-! ### the law's own side -/
/-- a dict, perhaps walked -/
def dob (b : Bool) (kvs : List (L2.Key × Va)) : Ob := if b = true then .lok kvs else .dct kvs
theorem subO_b {b : Bool} {kvs : List (L2.Key × Va)} {y : Va} {S : Sto} {P : PV} : subO (dob b kvs) y S P = ∃ kk, keyV y = some kk ∧ ∃ v, dget kvs kk = some v ∧ P v S := by
  cases b
  · exact subO_d
  · exact subO_k
def lrv (M : Mem) (i : Nat) (τ : Tre) : List (L2.Key × Va) := kd τ.nums fun n => .loc (M.L (.lrow i n))
def lfv (τ : Tre) : List (L2.Key × Va) := kd τ.nums fun n => .tup [hv (τ.hold n), .str (sx (τ.nm n))]
theorem dget_put {kvs : List (L2.Key × Va)} {k j : L2.Key} {v : Va} : dget (dput kvs k v) j = if j = k then some v else dget kvs j := by
  have hm : ∀ l : List (L2.Key × Va), dget (l.map fun kv => if kv.1 = k then (kv.1, v) else kv) j = if j = k then (dget l k).map fun _ => v else dget l j := by
    intro l
    induction l with
    | nil => unfold dget; split <;> rfl
    | cons p l ih =>
      unfold dget at ih ⊢
      obtain ⟨q, u⟩ := p
      rw [List.map_cons]
      by_cases h1 : q = k
      · subst h1
        by_cases h2 : j = q
        · subst h2; simp
        · have h3 : ¬ q = j := fun z => h2 z.symm
          rw [if_neg h2] at ih ⊢
          simp only [if_pos, List.find?_cons, h3, decide_false]
          exact ih
      · by_cases h2 : j = k
        · subst h2
          rw [if_pos rfl] at ih ⊢
          simp only [h1, if_false, List.find?_cons, decide_false]
          exact ih
        · rw [if_neg h2] at ih ⊢
          simp only [h1, if_false, List.find?_cons]
          by_cases h3 : q = j
          · simp [h3]
          · simp only [h3, decide_false]
            exact ih
  unfold dput
  split
  · rename_i h
    rw [hm]
    split
    · rw [List.any_eq_true] at h
      obtain ⟨p, hp, he⟩ := h
      have : ∃ u, dget kvs k = some u := by
        unfold dget
        cases hf : kvs.find? fun kv => decide (kv.1 = k) with
        | none => exact absurd he (List.find?_eq_none.mp hf p hp)
        | some u => exact ⟨_, rfl⟩
      obtain ⟨u, hu⟩ := this
      rw [hu]; rfl
    · rfl
  · rename_i h
    have hno : dget kvs k = none := by
      unfold dget
      have : kvs.find? (fun kv => decide (kv.1 = k)) = none := by
        rw [List.find?_eq_none]
        intro p hp he
        exact h (List.any_eq_true.mpr ⟨p, hp, he⟩)
      rw [this]; rfl
    unfold dget at *
    rw [List.find?_append]
    by_cases h2 : j = k
    · subst h2
      rw [if_pos rfl]
      have : kvs.find? (fun kv => decide (kv.1 = j)) = none := by
        cases hf : kvs.find? (fun kv => decide (kv.1 = j)) with
        | none => rfl
        | some u => rw [hf] at hno; cases hno
      rw [this]
      simp
    · rw [if_neg h2]
      have h3 : ¬ k = j := fun z => h2 z.symm
      simp [h3]
theorem dput_le {kvs : List (L2.Key × Va)} {k : L2.Key} {v : Va} : (dput kvs k v).length ≤ kvs.length + 1 := by
  unfold dput
  split
  · rw [List.length_map]; omega
  · rw [List.length_append]; exact Nat.le_refl _
/-- the law's facts: of each box that stands; of others too, it may be -/
structure Fc (τ : Tre) (kvs : List (L2.Key × Va)) : Prop where
  get : ∀ n ∈ τ.nums, dget kvs (.inl n) = some (.tup [hv (τ.hold n), .str (sx (τ.nm n))])
  len : kvs.length ≤ τ.coming.toNat
def FcAt (M : Mem) (S : Sto) (i : Nat) (τ : Tre) : Prop := ∃ kvs, Fc τ kvs ∧ Pt M S (.lfacts i) (.dct kvs)
structure LawAt (b : Bool) (M : Mem) (S : Sto) (i : Nat) (τ : Tre) : Prop where
  rows : Pt M S (.lrows i) (dob b (lrv M i τ))
  row : ∀ n ∈ τ.nums, Pt M S (.lrow i n) (.lst ((τ.row n).map Va.int))
  facts : FcAt M S i τ
def Tag.lof (i : Nat) : Tag → Bool
  | .lrows j => decide (j = i) | .lrow j _ => decide (j = i) | .lfacts j => decide (j = i) | _ => false
section
variable {b : Bool} {M M' : Mem} {S S' : Sto} {i : Nat} {τ : Tre} {D : Tag → Prop}
theorem LawAt.fr (h : LawAt b M S i τ) (f : Fr D M S M' S') (d : ∀ a, a.lof i = true → D a) : LawAt b M' S' i τ := by
  have dd : decide (i = i) = true := decide_eq_true rfl
  obtain ⟨l1, p1⟩ := f _ _ (d (.lrows i) dd) h.rows
  refine ⟨?_, fun n hn => (f _ _ (d (.lrow i n) dd) (h.row n hn)).2, by obtain ⟨kvs, h1, h2⟩ := h.facts; exact ⟨kvs, h1, (f _ _ (d (.lfacts i) dd) h2).2⟩⟩
  have e : lrv M' i τ = lrv M i τ := kd_congr fun n hn => by rw [(f _ _ (d (.lrow i n) dd) (h.row n hn)).1]
  rw [e]
  exact p1
theorem TreeAt.app {N : Sto} (h : TreeAt M S i τ) : TreeAt M (S ++ N) i τ := h.fr (D := fun _ => True) (Fr.app) fun _ _ => trivial
theorem LawAt.app {N : Sto} (h : LawAt b M S i τ) : LawAt b M (S ++ N) i τ := h.fr (D := fun _ => True) (Fr.app) fun _ _ => trivial
theorem LawAt.lock (h : LawAt false M S i τ) : LawAt true M (S.set (M.L (.lrows i)) (.lok (lrv M i τ))) i τ :=
  ⟨h.rows.here, fun n hn => (h.row n hn).set h.rows (by simp), by obtain ⟨kvs, h1, h2⟩ := h.facts; exact ⟨kvs, h1, h2.set h.rows (by simp)⟩⟩
theorem TreeAt.lock {j : Nat} {o u : Ob} (t : TreeAt M S i τ) (h : Pt M S (.lrows j) o) : TreeAt M (S.set (M.L (.lrows j)) u) i τ :=
  t.fr (Fr.set h u) fun a z e => by subst e; simp [Tag.of] at z
theorem unlk_app {S N : Sto} {k : Nat} {o u : Ob} (h : S[k]? = some o) : (S.set k u ++ N).set k o = S ++ N := by
  rw [List.set_append_left _ _ (by rw [List.length_set]; exact lt_of_get h), unlk h]
end
theorem deep_ok (k : Nat) {b : Bool} {M : Mem} {S : Sto} {i : Nat} {τ : Tre} (w : WF τ) (hF : FcAt M S i τ) {n : Int} (hn : n ∈ τ.nums) {P : PV} {E : PX} (h : P (.int (τ.deep n)) S) : call Hd.T (k + 1) "_law_deep" [.loc (M.L (.lfacts i)), .int n] S P E := by
  refine call_def (d := Hd.f_l_deep) rfl rfl ?_
  unfold Hd.f_l_deep
  obtain ⟨kvs, hF, hf⟩ := hF
  walk_at "am"
  refine seq_cut (call_mono _ _) (fun Γ S' => S' = S ∧ ∃ o, Γ = [some (.loc (M.L (.lfacts i))), o, some (.int (τ.deep n))]) ?_ ?_
  · refine wh_ix (call_mono _ _) (fun (a : Int × Nat) => [some (.loc (M.L (.lfacts i))), some (.int a.1), some (.int a.2)]) (fun a => a.1 ∈ τ.nums ∧ a.2 + τ.deep a.1 = τ.deep n) (fun a => τ.deep a.1) (n, 0) ⟨hn, by simp⟩ ?_
    rintro ⟨m, d⟩ ⟨hm, hd⟩
    have hg := hF.get m hm
    walk_at "am"
    refine ⟨_, hf.1, ?_⟩
    walk_at "am"
    refine ⟨_, hg, ?_⟩
    walk_at "am"
    replace hm : m ∈ τ.nums := hm
    replace hd : d + τ.deep m = τ.deep n := hd
    by_cases m0 : m = 0
    · subst m0
      rw [w.h0, if_neg (by decide)]
      have e : d = τ.deep n := by rw [w.d0] at hd; exact hd
      rw [e]
      exact ⟨_, rfl⟩
    · obtain ⟨g, g1, g2, g3, g4⟩ := w.up m hm m0
      rw [g1] at hg ⊢
      show if (!false) = true then _ else _
      rw [if_pos (by decide)]
      refine ⟨_, hf.1, ?_⟩
      walk_at "am"
      refine ⟨_, hg, ?_⟩
      walk_at "am"
      exact ⟨(g, d + 1), by simp [hv], ⟨g2, by show d + 1 + τ.deep g = _; omega⟩, by show τ.deep g < _; omega⟩
  · rintro Γ S' ⟨rfl, o, rfl⟩
    walk_at "am"
    exact fin_keep h
theorem fm_filter (p : Int → Bool) (ns : List Int) : (ns.map Va.int).filterMap (fun x => match x with | .int n => if p n = true then some x else none | _ => none) = (ns.filter p).map Va.int := by
  induction ns with
  | nil => rfl
  | cons n r ih =>
    rw [List.map_cons, List.filter_cons]
    cases h : p n with
    | true =>
      rw [List.filterMap_cons_some (b := .int n) (by simp only [h]; rfl), ih]
      rfl
    | false =>
      rw [List.filterMap_cons_none (by simp only [h]; rfl), ih]
      rfl
theorem at_lastI {xs : List Int} (h : xs ≠ []) : ∃ x ∈ xs, L2.atI (xs.map Va.int) (-1) = some (.int x) := by
  refine ⟨xs.getLast h, List.getLast_mem h, ?_⟩
  have e : xs.map Va.int = (xs.dropLast).map Va.int ++ [.int (xs.getLast h)] := by
    rw [← List.map_singleton, ← List.map_append, List.dropLast_concat_getLast h]
  rw [e]
  exact L2.atI_last _ _
theorem at_modI {xs : List Int} {d : Int} (h : xs ≠ []) : ∃ x ∈ xs, L2.atI (xs.map Va.int) (d.fmod xs.length) = some (.int x) := by
  have hl : 0 < xs.length := List.length_pos_iff.mpr h
  obtain ⟨h1, h2⟩ := fm d xs.length (by omega)
  obtain ⟨j, hj⟩ := Int.eq_ofNat_of_zero_le h1
  have hj' : j < xs.length := by omega
  exact ⟨xs[j], List.getElem_mem hj', by rw [hj]; exact L2.atI_nat (by simp [hj'])⟩
section
variable {k : Nat} {M : Mem} {S : Sto} {i : Nat} {τ : Tre} (w : WF τ) (l : LawAt false M S i τ)
include w l
theorem some_ok {a b c d : Option Va} {D : AEnds} (hl : τ.nums.length < 1000) (hD : ∀ xs : List Int, xs ≠ [] → (∀ x ∈ xs, x ∈ τ.nums ∧ τ.deep x < 12) → D.nx (a :: some (.loc (M.L (.lrows i))) :: some (.loc (M.L (.lfacts i))) :: b :: c :: d :: some (.loc S.length) :: [none, none, none, none, none, none]) (S ++ [.lst (xs.map Va.int)])) :
    WS (orc Hd.T (k + 1)) (.lck (.setC 6 [7] (.var 7) (.name 7) (.keys (.var 1)) (.some (.val (.cmp .lt (.call "_law_deep" (.cons (.var 2) (.cons (.var 7) .nil))) (.int 12)))))) D (a :: some (.loc (M.L (.lrows i))) :: some (.loc (M.L (.lfacts i))) :: b :: c :: d :: [none, none, none, none, none, none, none]) S := by
  refine setC_keys (k := M.L (.lrows i)) rfl l.rows.1 ?_
  have l2 := l.lock
  have hk : (lrv M i τ).map (fun kv => keyA kv.1) = τ.nums.map Va.int := kd_keys
  show cpB _ _ _ _ _ _ _ _ ((lrv M i τ).map fun kv => keyA kv.1) _ _
  rw [hk]
  refine cpL_map (call_mono _ _) (fun x => match x with | .int n => if decide (τ.deep n < 12) = true then some x else none | _ => none) (by rw [List.length_map]; omega) (fun _ => trivial) ?_ ?_
  · intro x hx acc
    obtain ⟨n, hn, rfl⟩ := List.mem_map.mp hx
    refine ⟨_, rfl, ?_⟩
    walk_at "am"
    refine deep_ok _ (b := true) w (l2.app (N := [.lst acc])).facts hn ?_
    walk_at "am"
    by_cases h : τ.deep n < 12
    · have h' : (τ.deep n : Int) < 12 := by omega
      rw [if_pos (decide_eq_true h)]
      exact ⟨decide_eq_true h', rfl⟩
    · have h' : ¬ (τ.deep n : Int) < 12 := by omega
      rw [if_neg (by simpa using h)]
      exact decide_eq_false h'
  · rw [fm_filter]
    refine ⟨?_, ?_⟩
    · rw [List.getElem?_append_left (by rw [List.length_set]; exact l.rows.lt)]
      exact List.getElem?_set_self l.rows.lt
    · have hr : S[M.L (.lrows i)]? = some (.dct (lrv M i τ)) := l.rows.1
      rw [unlk_app hr, List.length_set]
      refine hD _ (fun e => ?_) fun x hx => ?_
      · have : (0 : Int) ∈ τ.nums.filter (fun n => decide (τ.deep n < 12)) := List.mem_filter.mpr ⟨w.z, by simp [w.d0]⟩
        rw [e] at this; cases this
      · obtain ⟨h1, h2⟩ := List.mem_filter.mp hx
        exact ⟨h1, of_decide_eq_true h2⟩
end
theorem lput_ok (k : Nat) {M : Mem} {S : Sto} {i : Nat} {τ : Tre} (w : WF τ) (t : TreeAt M S i τ) (l : LawAt false M S i τ) (hl : τ.nums.length < 90) (hcm : τ.coming ≤ 900000) {c : Int} {v : Int} (hc : Cb c) (hw : v.natAbs ≤ 18000) {P : PV} {E : PX}
    (hP : ∀ M' S' h p cs, h ∈ τ.nums → τ.deep h < 12 → p ≤ (τ.row h).length → Nm cs → TreeAt M' S' i (τ.put h p cs) → LawAt false M' S' i (τ.put h p cs) → Fr (fun a => a.of i = false ∧ a.lof i = false) M S M' S' → (∀ a : Tag, ¬ a.box i τ.coming → a ≠ .lrow i τ.coming → M'.L a = M.L a) → P (.bl true) S') :
    call Hd.T (k + 4) "_law_put" [.loc (M.L (.tree i)), .loc (M.L (.lrows i)), .loc (M.L (.lfacts i)), .int τ.coming, .int c, .int v] S P E := by
  refine call_def (d := Hd.f_l_put) rfl rfl ?_
  unfold Hd.f_l_put
  refine seq_cut (call_mono _ _) (fun Γ S' => ∃ xs : List Int, xs ≠ [] ∧ (∀ x ∈ xs, x ∈ τ.nums ∧ τ.deep x < 12) ∧ S' = S ++ [.lst (xs.map Va.int)] ∧ Γ = [some (.loc (M.L (.tree i))), some (.loc (M.L (.lrows i))), some (.loc (M.L (.lfacts i))), some (.int τ.coming), some (.int c), some (.int v), some (.loc S.length), none, none, none, none, none, none]) (some_ok (k := k + 2) w l (by omega) fun xs h0 h1 => ⟨xs, h0, h1, rfl, rfl⟩) ?_
  rintro Γ S' ⟨xs, h0, h1, rfl, rfl⟩
  walk_at "am"
  refine mix_ok nmT _ c v hc (by omega) fun m m0 m1 => ?_
  walk_at "am"
  obtain ⟨x, hx, hxa⟩ := at_lastI h0
  refine ⟨_, hxa, ?_⟩
  refine seq_cut (call_mono _ _) (fun Γ S' => ∃ h : Int, h ∈ τ.nums ∧ τ.deep h < 12 ∧ S' = S ++ [.lst (xs.map Va.int)] ∧ Γ = [some (.loc (M.L (.tree i))), some (.loc (M.L (.lrows i))), some (.loc (M.L (.lfacts i))), some (.int τ.coming), some (.int c), some (.int v), some (.loc S.length), none, some (.int m), some (.int h), none, none, none]) ?_ ?_
  · walk_at "am"
    split
    · obtain ⟨y, hy, hya⟩ := at_modI (d := m.fdiv 2) h0
      rw [List.length_map]
      exact ⟨cdv 2 (by decide) (by decide), by have := List.length_pos_iff.mpr h0; omega, _, hya, y, (h1 y hy).1, (h1 y hy).2, rfl⟩
    · exact ⟨x, (h1 x hx).1, (h1 x hx).2, rfl⟩
  rintro Γ S' ⟨h, hh, hd, rfl, rfl⟩
  have l1 := l.app (N := [.lst (xs.map Va.int)])
  have t1 := t.app (N := [.lst (xs.map Va.int)])
  have hr : (τ.row h).length < 90 := Nat.lt_of_le_of_lt (w.rlen hh) hl
  walk_at "am"
  refine mix_ok nmT _ c (v + 1) hc (by omega) fun m2 m20 m21 => ?_
  walk_at "am"
  have lr1 : Pt M (S ++ [.lst (xs.map Va.int)]) (.lrows i) (.dct (lrv M i τ)) := l1.rows
  have hg : dget (lrv M i τ) (.inl h) = some (.loc (M.L (.lrow i h))) := dget_kd (f := fun n => Va.loc (M.L (.lrow i n))) hh
  refine ⟨_, lr1.1, ?_⟩
  walk_at "am"
  refine ⟨_, hg, ?_⟩
  walk_at "am"
  refine ⟨_, (l1.row h hh).1, ?_⟩
  walk_at "am"
  rw [List.length_map]
  refine ⟨by omega, ?_⟩
  obtain ⟨p0, p1⟩ := fm m2 ((τ.row h).length + 1) (by omega)
  obtain ⟨p, hp⟩ := Int.eq_ofNat_of_zero_le p0
  rw [hp]
  rw [hp] at p1
  refine name_ok nmT _ c (v + 2) hc (by omega) fun cs hcs => ?_
  walk_at "am"
  refine ⟨_, t1.tree.1, _, rfl, ?_⟩
  refine put_ok t1 _ hh (by omega) (by omega) hcs hl hd w.co fun M2 S2 t2 f2 eL => ?_
  have l2 := l1.fr f2 fun a z => by cases a <;> first | rfl | cases z
  obtain ⟨e1, lr2⟩ := f2 (.lrows i) _ rfl lr1
  obtain ⟨e2, lh2⟩ := f2 (.lrow i h) _ rfl (l1.row h hh)
  obtain ⟨kvs, hF, lf1⟩ := l1.facts
  obtain ⟨e3, lf2⟩ := f2 (.lfacts i) _ rfl lf1
  walk_at "am"
  rw [← e1, ← e3]
  refine ⟨_, lr2.1, ?_⟩
  walk_at "am"
  refine ⟨_, hg, ?_⟩
  rw [← e2]
  refine ⟨⟨_, .inr ⟨_, rfl, lh2.1⟩⟩, ?_⟩
  refine ⟨_, lh2.1, by simp; omega, Int.natCast_nonneg p, by omega, ?_⟩
  obtain ⟨S3, hS3⟩ : ∃ S3, S3 = S2.set (M2.L (.lrow i h)) (.lst ((insAt (τ.row h) p τ.coming).map Va.int)) := ⟨_, rfl⟩
  have eS : S2.set (M2.L (.lrow i h)) (.lst (List.take (p : Int).toNat ((τ.row h).map Va.int) ++ [.int τ.coming] ++ List.drop (p : Int).toNat ((τ.row h).map Va.int))) = S3 := by
    rw [hS3]; simp [insAt, List.map_take, List.map_drop]
  rw [eS]
  have g1 : Fr (· ≠ .lrow i h) M2 S2 M2 S3 := by rw [hS3]; exact Fr.set lh2 _
  have lh3 : Pt M2 S3 (.lrow i h) (.lst ((insAt (τ.row h) p τ.coming).map Va.int)) := by rw [hS3]; exact lh2.here
  have lr3 := (g1 _ _ (by simp) lr2).2
  have lf3 := (g1 _ _ (by simp) lf2).2
  have hco := w.co
  refine ⟨_, lr3.app.1, _, putO_d rfl (by rw [show (lrv M i τ).length = τ.nums.length from kd_len]; omega), ?_⟩
  refine ⟨_, (lf3.app.set lr3 (by simp)).1, _, putO_d rfl (by have := hF.len; omega), ?_⟩
  refine whole_ok _ _ ?_
  walk_at "am"
  refine fin_keep ?_
  have g2 : Fr (· ≠ .lrow i τ.coming) M2 S3 (M2.new (.lrow i τ.coming) S3.length) (S3 ++ [.lst []]) := (Fr.new _ (Nat.le_refl _)).trans Fr.app
  have nh : h ≠ τ.coming := fun e => hco (e ▸ hh)
  obtain ⟨z1, lr4⟩ := g2 _ _ (by simp) lr3
  obtain ⟨z2, lf4⟩ := g2 _ _ (by simp) lf3
  obtain ⟨z3, lh4⟩ := g2 _ _ (by simp [nh]) lh3
  have ln4 : Pt (M2.new (.lrow i τ.coming) S3.length) (S3 ++ [.lst []]) (.lrow i τ.coming) (.lst []) := .mk new_eq (by simp) (by simp [Mem.new])
  have ezr : dput (lrv M i τ) (.inl τ.coming) (.loc S3.length) = lrv (M2.new (.lrow i τ.coming) S3.length) i (τ.put h p cs) := by
    show dput (kd τ.nums _) _ _ = kd (τ.nums ++ [τ.coming]) _
    rw [dput_new hco, kd_snoc]
    congr 1
    · refine kd_congr fun n hn => ?_
      have nn : n ≠ τ.coming := fun e => hco (e ▸ hn)
      rw [new_ne (by simp [nn]), (f2 (.lrow i n) _ rfl (l1.row n hn)).1]
    · rw [new_eq]
  obtain ⟨kv2, hkv2⟩ : ∃ kv2, kv2 = dput kvs (.inl τ.coming) (.tup [.int h, .str (sx cs)]) := ⟨_, rfl⟩
  have hF2 : Fc (τ.put h p cs) kv2 := by
    refine ⟨fun n hn => ?_, ?_⟩
    · rw [hkv2, dget_put]
      show _ = some (Va.tup [hv (up τ.hold τ.coming (some h) n), .str (sx (up τ.nm τ.coming cs n))])
      by_cases e : n = τ.coming
      · subst e; rw [if_pos rfl, up_eq, up_eq]; rfl
      · rw [if_neg (fun z => e (Sum.inl.inj z)), up_ne e, up_ne e]
        rcases List.mem_append.mp hn with y | y
        · exact hF.get n y
        · exact absurd (List.mem_singleton.mp y) e
    · have := hF.len
      have h0 := (w.lt 0 w.z)
      have := dput_le (kvs := kvs) (k := .inl τ.coming) (v := .tup [.int h, .str (sx cs)])
      rw [hkv2]
      show _ ≤ (τ.coming + 1).toNat
      omega
  rw [ezr, ← hkv2, ← z1, ← z2]
  have g3 := Fr.set lr4 (.dct (lrv (M2.new (.lrow i τ.coming) S3.length) i (τ.put h p cs)))
  have lf5 := (g3 _ _ (by simp) lf4).2
  have g4 := Fr.set lf5 (.dct kv2)
  have G : Fr (fun a => a ≠ .lrow i h ∧ a ≠ .lrow i τ.coming ∧ a ≠ .lrows i ∧ a ≠ .lfacts i) M2 S2 _ _ := ((g1.weak fun a z => z.1).trans (g2.weak fun a z => z.2.1)).trans ((g3.weak fun a z => z.2.2.1).trans (g4.weak fun a z => z.2.2.2))
  refine hP _ _ h p cs hh hd (by omega) hcs (t2.fr G fun a z => ⟨?_, ?_, ?_, ?_⟩) ⟨?_, ?_, ?_⟩ ?_ (fun a h1 h2 => (new_ne h2).trans (eL a h1))
  · rintro rfl; cases z
  · rintro rfl; cases z
  · rintro rfl; cases z
  · rintro rfl; cases z
  · exact (g4 _ _ (by simp) lr4.here).2
  · intro n hn
    rcases List.mem_append.mp hn with hm | hm
    · have nn : n ≠ τ.coming := fun e => hco (e ▸ hm)
      by_cases e : n = h
      · rw [e]
        have : (τ.put h p cs).row h = insAt (τ.row h) p τ.coming := by
          show up (up τ.row h _) τ.coming [] h = _
          rw [up_ne nh, up_eq]
        rw [this]
        exact (g4 _ _ (by simp) (g3 _ _ (by simp) lh4).2).2
      · have : (τ.put h p cs).row n = τ.row n := by
          show up (up τ.row h _) τ.coming [] n = _
          rw [up_ne nn, up_ne e]
        rw [this]
        exact (G _ _ (by simp [nn, e]) (l2.row n hm)).2
    · rw [List.mem_singleton.mp hm]
      have : (τ.put h p cs).row τ.coming = [] := up_eq
      rw [this]
      exact (g4 _ _ (by simp) (g3 _ _ (by simp) ln4).2).2
  · exact ⟨kv2, hF2, lf5.here⟩
  · refine Fr.trans (Fr.trans (Fr.app (N := [.lst (xs.map Va.int)])) (f2.weak fun a z => z.1)) (G.weak fun a z => ⟨?_, ?_, ?_, ?_⟩)
    all_goals
      rintro rfl
      simp [Tag.lof] at z
end TR
end

section
set_option linter.all false
set_option maxRecDepth 100000
set_option maxHeartbeats 4000000
/-! Trees: a box with all beneath it. -/
open PySem
namespace TR
open PySem AM NM
local macro_rules | `(tactic| walk_at "am") => `(tactic| try simp only [st_set0, st_setS, iteTrue, iteFalse, iteDec, iteNDec, exSome, exBl, W_var, W_int, W_bl, W_non, W_str, W_tup, W_lst, W_bin, W_neg, W_cmp, W_isN, W_notN, W_lrev, W_maxd, W_sortk, wIsb, wNisb, W_chain, W_chain3, W_tst, W_ite, W_call, W_len, W_abs, W_isi, W_sub, WT_val, WT_not, WT_and, WT_or, WA_one, WA_cons, WO_one, WO_cons, WB_val, WB_not, WB_and, WB_or, WBA_one, WBA_cons, WBO_one, WBO_cons, WL_nil, WL_cons, WS_set, WS_ret, WS_retN, WS_pass, WS_brk, WS_cont, WS_drop, WS_ite, WS_raise, WSs_nil, Ss_set, Ss_ret, Ss_retN, Ss_pass, Ss_brk, Ss_cont, Ss_drop, Ss_raise, Ss_ite_ret, Ss_ite_retN, Ss_ite_raise, Ss_ite_cont, Ss_ite_brk, Ss_ite_last, gt_0, gt_S, wAdd_int, wSub_int, wMul_int, wMul_rep, wMul_str, wDiv_int, wMod_int, wPow_int, wAdd_str, wNeg_int, wAbs_int, wLt_int, wLe_int, wGt_int, wGe_int, wEq_int, wNe_int, wEq_bl, wNe_bl, wEq_str, wNe_str, wLen_tup, wLen_lst, tru_bl, tru_int, ty_int_int, ty_int_bool, ty_int_str, ty_int_tuple, ty_int_list, ty_int_dict, ty_bl_int, ty_bl_bool, ty_bl_str, ty_bl_tuple, ty_bl_list, ty_bl_dict, ty_str_int, ty_str_bool, ty_str_str, ty_str_tuple, ty_str_list, ty_str_dict, ty_tup_int, ty_tup_bool, ty_tup_str, ty_tup_tuple, ty_tup_list, ty_tup_dict, ty_lst_int, ty_lst_bool, ty_lst_str, ty_lst_tuple, ty_lst_list, ty_lst_dict, ty_dct_int, ty_dct_bool, ty_dct_str, ty_dct_tuple, ty_dct_list, ty_dct_dict, ty_non, sub_tup0, sub_tup1, sub_tup2, sub_tup3, sub_tup4, sub_tup5, sub_lst0, sub_lst1, sub_lst2, sub_lst3, sub_lst4, sub_lst5, startA, List.map_cons, List.map_nil, List.length_cons, List.length_nil, List.replicate, List.cons_append, List.nil_append, true_and, and_true, ne_eq, isNon, Bool.not_true, Bool.not_false, Bool.true_or, Bool.or_true, Bool.false_or, reduceIte, Nat.reduceAdd, Nat.zero_add, Int.cast_ofNat_Int, Int.reduceEq, Int.reduceLT, Int.reduceLE, Nat.reduceLeDiff, decide_true, decide_false, not_true_eq_false, not_false_eq_true, Nat.reduceSub, Int.reduceToNat, W_slice, W_blt, W_mth, W_comp, WOe_none, WOe_some, WI_seq, WI_keys, WI_items, WI_range1, WI_range2, WI_enum, WI_zip, WI_rev, WI_revr, WI_rangeD, WT0_none, WT0_some, Ss_asg, Ss_setSub, Ss_aug, WS_asg, WS_aug, WS_for, WS_setC, bT_name, bT_tup, bT_lst, bTs_nil, bTs_name, seq_lst, seq_tup, seq_scr, seq_str, seq_loc, en_tup, en_lst, en_scr, en_loc, lst_lst, lst_scr, lst_loc, exInt, exLoc, exLst, exLst1, exLV_lst, exLV_loc, mOk_app, mOk_pop, mOk_ext, mOk_ins, mOk_ind, mOk_join, mOk_indl, m_append, m_pop, m_extend, m_insert, m_join, b_listL, b_listT, b_listS, b_listK, b_tupL, b_tupT, b_tupK, b_max2, b_min2, b_ord, b_str, sl_lst, sl_loc, sl_scr, sl_tupE, sl_strE, cat_lst, cat_loc, cat_tup, wLen_scr, wLen_loc, wLen_str, wSub_scr, wSub_loc, wSub_str, aug_add, aug_sub, tru_lst, tru_tup, tru_non, ty_scr_list, sg_p0, sg_pl, ss_p0, ss_pl, ob_set0, ob_set1, ob_set2, ob_set3, ob_g0, ob_g1, ob_g2, ob_g3, List.append_assoc, List.length_append, List.nil_append, Nat.add_zero, Nat.add_assoc, Int.reduceNeg, wipeA, orc_run, orc_glob, orc_init, orc_isa, orc_gdct, W_isc, W_isE, W_isEt, orc_xk, m_upper, m_partition, m_split, m_endswith, m_find, mOk_upper, mOk_partition, mOk_split, mOk_endswith, mOk_find, b_intB, W_glob, W_gget, W_fld, W_mcall, W_make, W_make0, W_dsp, Ss_setFld, subO_l, subO_d, subO_k, lenO_l, lenO_d, listO_l, listO_d, putO_l, keyV_int, keyV_str, wIn_str, wNotin_str, mapSome, at_0, at_1, at_2, at_3, at_4, at_5, ix_1_0, ix_2_0, ix_2_1, ix_3_0, ix_3_1, ix_3_2, ix_4_0, ix_4_1, ix_4_2, ix_4_3, va_s0, va_s1, va_s2, va_s3])
local macro_rules | `(tactic| walk_at "if") => `(tactic| (try simp only []); rw [Ss_ite]; simp only [st_set0, st_setS, iteTrue, iteFalse, iteDec, iteNDec, exSome, exBl, W_var, W_int, W_bl, W_non, W_str, W_tup, W_lst, W_bin, W_neg, W_cmp, W_isN, W_notN, W_lrev, W_maxd, W_sortk, wIsb, wNisb, W_chain, W_chain3, W_tst, W_ite, W_call, W_len, W_abs, W_isi, W_sub, WT_val, WT_not, WT_and, WT_or, WA_one, WA_cons, WO_one, WO_cons, WB_val, WB_not, WB_and, WB_or, WBA_one, WBA_cons, WBO_one, WBO_cons, WL_nil, WL_cons, WS_set, WS_ret, WS_retN, WS_pass, WS_brk, WS_cont, WS_drop, WS_ite, WS_raise, WSs_nil, Ss_set, Ss_ret, Ss_retN, Ss_pass, Ss_brk, Ss_cont, Ss_drop, Ss_raise, Ss_ite_ret, Ss_ite_retN, Ss_ite_raise, Ss_ite_cont, Ss_ite_brk, Ss_ite_last, gt_0, gt_S, wAdd_int, wSub_int, wMul_int, wMul_rep, wMul_str, wDiv_int, wMod_int, wPow_int, wAdd_str, wNeg_int, wAbs_int, wLt_int, wLe_int, wGt_int, wGe_int, wEq_int, wNe_int, wEq_bl, wNe_bl, wEq_str, wNe_str, wLen_tup, wLen_lst, tru_bl, tru_int, ty_int_int, ty_int_bool, ty_int_str, ty_int_tuple, ty_int_list, ty_int_dict, ty_bl_int, ty_bl_bool, ty_bl_str, ty_bl_tuple, ty_bl_list, ty_bl_dict, ty_str_int, ty_str_bool, ty_str_str, ty_str_tuple, ty_str_list, ty_str_dict, ty_tup_int, ty_tup_bool, ty_tup_str, ty_tup_tuple, ty_tup_list, ty_tup_dict, ty_lst_int, ty_lst_bool, ty_lst_str, ty_lst_tuple, ty_lst_list, ty_lst_dict, ty_dct_int, ty_dct_bool, ty_dct_str, ty_dct_tuple, ty_dct_list, ty_dct_dict, ty_non, sub_tup0, sub_tup1, sub_tup2, sub_tup3, sub_tup4, sub_tup5, sub_lst0, sub_lst1, sub_lst2, sub_lst3, sub_lst4, sub_lst5, startA, List.map_cons, List.map_nil, List.length_cons, List.length_nil, List.replicate, List.cons_append, List.nil_append, true_and, and_true, ne_eq, isNon, Bool.not_true, Bool.not_false, Bool.true_or, Bool.or_true, Bool.false_or, reduceIte, Nat.reduceAdd, Nat.zero_add, Int.cast_ofNat_Int, Int.reduceEq, Int.reduceLT, Int.reduceLE, Nat.reduceLeDiff, decide_true, decide_false, not_true_eq_false, not_false_eq_true, Nat.reduceSub, Int.reduceToNat, W_slice, W_blt, W_mth, W_comp, WOe_none, WOe_some, WI_seq, WI_keys, WI_items, WI_range1, WI_range2, WI_enum, WI_zip, WI_rev, WI_revr, WI_rangeD, WT0_none, WT0_some, Ss_asg, Ss_setSub, Ss_aug, WS_asg, WS_aug, WS_for, WS_setC, bT_name, bT_tup, bT_lst, bTs_nil, bTs_name, seq_lst, seq_tup, seq_scr, seq_str, seq_loc, en_tup, en_lst, en_scr, en_loc, lst_lst, lst_scr, lst_loc, exInt, exLoc, exLst, exLst1, exLV_lst, exLV_loc, mOk_app, mOk_pop, mOk_ext, mOk_ins, mOk_ind, mOk_join, mOk_indl, m_append, m_pop, m_extend, m_insert, m_join, b_listL, b_listT, b_listS, b_listK, b_tupL, b_tupT, b_tupK, b_max2, b_min2, b_ord, b_str, sl_lst, sl_loc, sl_scr, sl_tupE, sl_strE, cat_lst, cat_loc, cat_tup, wLen_scr, wLen_loc, wLen_str, wSub_scr, wSub_loc, wSub_str, aug_add, aug_sub, tru_lst, tru_tup, tru_non, ty_scr_list, sg_p0, sg_pl, ss_p0, ss_pl, ob_set0, ob_set1, ob_set2, ob_set3, ob_g0, ob_g1, ob_g2, ob_g3, List.append_assoc, List.length_append, List.nil_append, Nat.add_zero, Nat.add_assoc, Int.reduceNeg, wipeA, orc_run, orc_glob, orc_init, orc_isa, orc_gdct, W_isc, W_isE, W_isEt, orc_xk, m_upper, m_partition, m_split, m_endswith, m_find, mOk_upper, mOk_partition, mOk_split, mOk_endswith, mOk_find, b_intB, W_glob, W_gget, W_fld, W_mcall, W_make, W_make0, W_dsp, Ss_setFld, subO_l, subO_d, subO_k, lenO_l, lenO_d, listO_l, listO_d, putO_l, keyV_int, keyV_str, wIn_str, wNotin_str, mapSome, at_0, at_1, at_2, at_3, at_4, at_5, ix_1_0, ix_2_0, ix_2_1, ix_3_0, ix_3_1, ix_3_2, ix_4_0, ix_4_1, ix_4_2, ix_4_3, va_s0, va_s1, va_s2, va_s3])
/-- what a stack of boxes comes to, its top at its end -/
inductive Pre (row : Int → List Int) : List Int → List Int → Prop
  | nil : Pre row [] []
  | pop {xs ys : List Int} {n : Int} : Pre row (xs ++ (row n).reverse) ys → Pre row (xs ++ [n]) (n :: ys)
def sub (row : Int → List Int) : Nat → Int → List Int
  | 0, n => [n]
  | f + 1, n => n :: (row n).flatMap (sub row f)
/-- a box with all beneath it, in the tree's order -/
def Tre.und (τ : Tre) (n : Int) : List Int := sub τ.row 12 n
section
variable {row : Int → List Int}
theorem Pre.empty {xs ys : List Int} (h : Pre row xs ys) : xs = [] ↔ ys = [] := by
  cases h with
  | nil => exact Iff.rfl
  | pop _ => exact ⟨fun e => by simp at e, fun e => by cases e⟩
theorem Pre.next {xs ys : List Int} {n : Int} (h : Pre row (xs ++ [n]) ys) : ∃ zs, ys = n :: zs ∧ Pre row (xs ++ (row n).reverse) zs := by
  generalize e : xs ++ [n] = us at h
  cases h with
  | nil => simp at e
  | @pop us zs m q =>
    have e1 : xs = us := by
      have := congrArg List.dropLast e
      simpa using this
    have e2 : n = m := by
      have := congrArg List.getLast? e
      simpa using this
    subst e1 e2
    exact ⟨zs, rfl, q⟩
theorem Pre.len {xs ys : List Int} (h : Pre row xs ys) : xs.length ≤ ys.length := by
  induction h with
  | nil => simp
  | pop _ ih => rw [List.length_append] at ih; simp; omega
theorem sub_self (f : Nat) (n : Int) : n ∈ sub row f n := by
  cases f <;> simp [sub]
theorem sub_ne (f : Nat) (n : Int) : sub row f n ≠ [] := by
  cases f <;> simp [sub]
end
theorem WF.leaf {τ : Tre} (w : WF τ) {n : Int} (hn : n ∈ τ.nums) (h : 12 ≤ τ.deep n) : τ.row n = [] := by
  apply List.eq_nil_iff_forall_not_mem.mpr
  intro c hc
  obtain ⟨h1, h2⟩ := w.row n hn c hc
  obtain ⟨g, g1, g2, g3, g4⟩ := w.up c h1 (w.ne0 hn hc)
  rw [h2] at g1; cases g1
  have := w.dp c h1
  omega
theorem WF.kid {τ : Tre} (w : WF τ) {n c : Int} (hn : n ∈ τ.nums) (hc : c ∈ τ.row n) : c ∈ τ.nums ∧ τ.deep c = τ.deep n + 1 := by
  obtain ⟨h1, h2⟩ := w.row n hn c hc
  obtain ⟨g, g1, g2, g3, g4⟩ := w.up c h1 (w.ne0 hn hc)
  rw [h2] at g1; cases g1
  exact ⟨h1, g4⟩
theorem WF.pre {τ : Tre} (w : WF τ) : ∀ (f : Nat) (n : Int), n ∈ τ.nums → 12 ≤ τ.deep n + f → ∀ xs ys, Pre τ.row xs ys → Pre τ.row (xs ++ [n]) (sub τ.row f n ++ ys)
  | 0, n, hn, hf, xs, ys, h => by
    refine .pop ?_
    rw [w.leaf hn (by omega)]
    simpa using h
  | f + 1, n, hn, hf, xs, ys, h => by
    refine .pop ?_
    have key : ∀ cs : List Int, (∀ c ∈ cs, c ∈ τ.row n) → Pre τ.row (xs ++ cs.reverse) (cs.flatMap (sub τ.row f) ++ ys) := by
      intro cs
      induction cs with
      | nil => intro _; simpa using h
      | cons c r ih =>
        intro hc
        obtain ⟨k1, k2⟩ := w.kid hn (hc c List.mem_cons_self)
        have := WF.pre w f c k1 (by omega) _ _ (ih fun d hd => hc d (List.mem_cons_of_mem _ hd))
        rw [List.reverse_cons, List.flatMap_cons, ← List.append_assoc xs, List.append_assoc (sub τ.row f c)]
        exact this
    exact key _ fun _ z => z
theorem WF.und {τ : Tre} (w : WF τ) {n : Int} (hn : n ∈ τ.nums) : Pre τ.row [n] (τ.und n) := by
  have := w.pre 12 n hn (by omega) [] [] .nil
  simpa [Tre.und] using this
theorem sub_nums {τ : Tre} (w : WF τ) : ∀ (f : Nat) (n : Int), n ∈ τ.nums → ∀ m ∈ sub τ.row f n, m ∈ τ.nums
  | 0, n, hn, m, hm => by rw [List.mem_singleton.mp hm]; exact hn
  | f + 1, n, hn, m, hm => by
    rcases List.mem_cons.mp hm with rfl | hm
    · exact hn
    · obtain ⟨c, hc, hm⟩ := List.mem_flatMap.mp hm
      exact sub_nums w f c (w.row n hn c hc).1 m hm
theorem WF.und_mem {τ : Tre} (w : WF τ) {n m : Int} (hn : n ∈ τ.nums) (hm : m ∈ τ.und n) : m ∈ τ.nums := sub_nums w 12 n hn m hm
/-- what stands beneath, step by step -/
inductive Ben (row : Int → List Int) (n : Int) : Int → Prop
  | self : Ben row n n
  | step {m c : Int} : Ben row n m → c ∈ row m → Ben row n c
theorem Ben.head {row : Int → List Int} {n c m : Int} (hc : c ∈ row n) (h : Ben row c m) : Ben row n m := by
  induction h with
  | self => exact .step .self hc
  | step _ hk ih => exact .step ih hk
theorem sub_ben {row : Int → List Int} : ∀ (f : Nat) (n m : Int), m ∈ sub row f n → Ben row n m
  | 0, n, m, hm => by rw [List.mem_singleton.mp hm]; exact .self
  | f + 1, n, m, hm => by
    rcases List.mem_cons.mp hm with rfl | hm
    · exact .self
    · obtain ⟨c, hc, hm⟩ := List.mem_flatMap.mp hm
      exact .head hc (sub_ben f c m hm)
theorem sub_closed {τ : Tre} (w : WF τ) : ∀ (f : Nat) (n : Int), n ∈ τ.nums → 12 ≤ τ.deep n + f → ∀ m ∈ sub τ.row f n, ∀ c ∈ τ.row m, c ∈ sub τ.row f n
  | 0, n, hn, hf, m, hm, c, hc => by
    rw [List.mem_singleton.mp hm, w.leaf hn (by omega)] at hc
    cases hc
  | f + 1, n, hn, hf, m, hm, c, hc => by
    rcases List.mem_cons.mp hm with rfl | hm
    · exact List.mem_cons_of_mem _ (List.mem_flatMap.mpr ⟨c, hc, sub_self f c⟩)
    · obtain ⟨d, hd, hm⟩ := List.mem_flatMap.mp hm
      obtain ⟨k1, k2⟩ := w.kid hn hd
      exact List.mem_cons_of_mem _ (List.mem_flatMap.mpr ⟨d, hd, sub_closed w f d k1 (by omega) m hm c hc⟩)
theorem WF.und_iff {τ : Tre} (w : WF τ) {n m : Int} (hn : n ∈ τ.nums) : m ∈ τ.und n ↔ Ben τ.row n m := by
  refine ⟨sub_ben 12 n m, fun h => ?_⟩
  induction h with
  | self => exact sub_self 12 n
  | step _ hk ih => exact sub_closed w 12 n hn (by omega) _ ih _ hk
theorem WF.deep_le {τ : Tre} (w : WF τ) {n m : Int} (hn : n ∈ τ.nums) (h : Ben τ.row n m) : m ∈ τ.nums ∧ (m = n ∨ τ.deep n < τ.deep m) := by
  induction h with
  | self => exact ⟨hn, .inl rfl⟩
  | step _ hk ih =>
    obtain ⟨k1, k2⟩ := w.kid ih.1 hk
    refine ⟨k1, .inr ?_⟩
    rcases ih.2 with e | e
    · rw [k2, e]; omega
    · omega
theorem WF.und0 {τ : Tre} (w : WF τ) {n : Int} (hn : n ∈ τ.nums) (h0 : n ≠ 0) : 0 ∉ τ.und n := fun h => by
  obtain ⟨_, e | e⟩ := w.deep_le hn ((w.und_iff hn).mp h)
  · exact h0 e.symm
  · rw [w.d0] at e; omega
/-- the holder of what is beneath is beneath, but of the box itself -/
theorem WF.und_hold {τ : Tre} (w : WF τ) {n m h : Int} (hn : n ∈ τ.nums) (hm : m ∈ τ.und n) (e : m ≠ n) (hh : τ.hold m = some h) : h ∈ τ.und n := by
  have := (w.und_iff hn).mp hm
  cases this with
  | self => exact absurd rfl e
  | @step g _ q hk =>
    have hg := (w.und_iff hn).mpr q
    obtain ⟨h1, h2⟩ := w.row g (w.und_mem hn hg) m hk
    rw [hh] at h2; cases h2
    exact hg
theorem flat_len {f : Int → List Int} {cs : List Int} {b : Nat} (h : ∀ c ∈ cs, (f c).length ≤ b) : (cs.flatMap f).length ≤ cs.length * b := by
  induction cs with
  | nil => simp
  | cons c r ih =>
    have h1 := h c List.mem_cons_self
    have h2 := ih fun d hd => h d (List.mem_cons_of_mem _ hd)
    rw [List.flatMap_cons, List.length_append, List.length_cons, Nat.succ_mul]; omega
/-- no box comes twice -/
theorem sub_nd {τ : Tre} (w : WF τ) : ∀ (f : Nat) (n : Int), n ∈ τ.nums → (sub τ.row f n).Nodup
  | 0, n, hn => by simp [sub]
  | f + 1, n, hn => by
    refine List.nodup_cons.mpr ⟨fun h => ?_, ?_⟩
    · obtain ⟨c, hc, hm⟩ := List.mem_flatMap.mp h
      obtain ⟨k1, k2⟩ := w.kid hn hc
      obtain ⟨_, e | e⟩ := w.deep_le k1 (sub_ben f c n hm)
      · rw [e] at k2; omega
      · omega
    · have key : ∀ cs : List Int, cs.Nodup → (∀ c ∈ cs, c ∈ τ.row n) → (cs.flatMap (sub τ.row f)).Nodup := by
        intro cs
        induction cs with
        | nil => intro _ _; simp
        | cons c r ih =>
          intro hnd hc
          obtain ⟨n1, n2⟩ := List.nodup_cons.mp hnd
          obtain ⟨k1, k2⟩ := w.kid hn (hc c List.mem_cons_self)
          rw [List.flatMap_cons]
          refine List.nodup_append.mpr ⟨sub_nd w f c k1, ih n2 fun d hd => hc d (List.mem_cons_of_mem _ hd), fun a ha b hb e => ?_⟩
          subst e
          obtain ⟨d, hd, hb⟩ := List.mem_flatMap.mp hb
          obtain ⟨j1, j2⟩ := w.kid hn (hc d (List.mem_cons_of_mem _ hd))
          have hcd : c ≠ d := fun e => n1 (e ▸ hd)
          -- two ways up from a
          have up2 : ∀ {u v a : Int}, u ∈ τ.nums → v ∈ τ.nums → τ.deep u = τ.deep v → Ben τ.row u a → Ben τ.row v a → u = v := by
            intro u v a hu hv he h1
            induction h1 with
            | self =>
              intro h2
              obtain ⟨_, e | e⟩ := w.deep_le hv h2
              · exact e
              · omega
            | @step g x q hk ih =>
              intro h2
              cases h2 with
              | self =>
                obtain ⟨z1, z2⟩ := w.deep_le hu q
                obtain ⟨_, z3⟩ := w.kid z1 hk
                rcases z2 with e | e
                · rw [e] at z3; omega
                · omega
              | @step g' _ q' hk' =>
                obtain ⟨y1, _⟩ := w.deep_le hu q
                obtain ⟨y2, _⟩ := w.deep_le hv q'
                have a1 := (w.row g y1 x hk).2
                have a2 := (w.row g' y2 x hk').2
                rw [a1] at a2; cases a2
                exact ih q'
          exact hcd (up2 k1 j1 (by rw [k2, j2]) (sub_ben f c a ha) (sub_ben f d a hb))
      exact key _ (w.rnd n hn) fun _ z => z
theorem WF.und_nd {τ : Tre} (w : WF τ) {n : Int} (hn : n ∈ τ.nums) : (τ.und n).Nodup := sub_nd w 12 n hn
theorem WF.und_len {τ : Tre} (w : WF τ) {n : Int} (hn : n ∈ τ.nums) : (τ.und n).length ≤ τ.nums.length := nodup_sub (w.und_nd hn) fun m hm => w.und_mem hn hm
theorem pop_last {xs : List Int} {n : Int} : ((xs ++ [n]).map Va.int)[((xs ++ [n]).map Va.int).length - 1]? = some (.int n) := by simp
theorem drop_last {xs : List Int} {n : Int} : ((xs ++ [n]).map Va.int).dropLast = xs.map Va.int := by simp
section
variable {M : Mem} {S : Sto} {i : Nat} {τ : Tre} (w : WF τ) (t : TreeAt M S i τ) {n : Int} {P : PV} {E : PX}
include w t
theorem withall_ok (k : Nat) (hn : n ∈ τ.nums) (hl : τ.nums.length ≤ 1000) (h : ∀ N, P (.loc S.length) (S ++ (.lst ((τ.und n).map Va.int) :: N))) : call Hd.T (k + 2) "Tree.with_all" [.loc (M.L (.tree i)), .int n] S P E := by
  refine call_def (d := Hd.f_Tree_with_all) rfl rfl ?_
  unfold Hd.f_Tree_with_all
  walk_at "am"
  refine seq_cut (call_mono _ _) (fun Γ S' => ∃ N o, S' = S ++ (.lst ((τ.und n).map Va.int) :: N) ∧ Γ = [some (.loc (M.L (.tree i))), some (.int n), some (.loc S.length), some (.loc (S.length + 1)), o]) ?_ ?_
  · refine wh_rule (call_mono _ _) (fun Γ S' => ∃ told stack rest N o, Pre τ.row stack rest ∧ told ++ rest = τ.und n ∧ (∀ m ∈ stack, m ∈ τ.nums) ∧ S' = S ++ (.lst (told.map Va.int) :: .lst (stack.map Va.int) :: N) ∧ Γ = [some (.loc (M.L (.tree i))), some (.int n), some (.loc S.length), some (.loc (S.length + 1)), o]) (fun Γ S' => match S'[S.length]? with | some (.lst xs) => 1000 - xs.length | _ => 0) ⟨[], [n], _, [], none, w.und hn, rfl, by simpa using hn, by simp, rfl⟩ ?_
    rintro Γ S' ⟨told, stack, rest, N, o, hp, hr, hs, rfl, rfl⟩
    walk_at "am"
    have hst : (S ++ Ob.lst (told.map Va.int) :: Ob.lst (stack.map Va.int) :: N)[S.length + 1]? = some (.lst (stack.map Va.int)) := by rw [sg_pl]; rfl
    refine ⟨_, tru_loc hst, ?_⟩
    have hlen := w.und_len hn
    rw [← hr, List.length_append] at hlen
    rcases List.eq_nil_or_concat stack with e | ⟨xs, m, e⟩
    · subst e
      have er := hp.empty.mp rfl
      subst er
      rw [List.append_nil] at hr
      subst hr
      exact ⟨_, _, rfl, rfl⟩
    · rw [List.concat_eq_append] at e
      subst e
      obtain ⟨zs, ez, hp2⟩ := hp.next
      subst ez
      have hm : m ∈ τ.nums := hs m (by simp)
      rw [if_pos (by simp)]
      rw [List.length_cons] at hlen
      refine ⟨_, pop_last, by rw [List.length_map]; omega, ?_⟩
      rw [drop_last]
      have t1 := t.app (N := Ob.lst (told.map Va.int ++ [.int m]) :: Ob.lst (xs.map Va.int) :: N)
      refine ⟨_, t1.tree.1, _, rfl, found_ok t1 _ hm ?_⟩
      have hrl := w.rlen hm
      have hsl := hp2.len
      rw [List.length_append, List.length_reverse] at hsl
      refine ⟨_, rfl, _, (t1.box m hm).bx.1, _, rfl, _, .inl (.inr ⟨_, rfl, (t1.box m hm).row.1⟩), xs.map Va.int, ?_, ?_, ?_, ?_⟩
      · rw [List.append_assoc, sg_pl]; rfl
      · simp; omega
      · refine ⟨told ++ [m], xs ++ (τ.row m).reverse, zs, N ++ [.lst ((τ.row m).map Va.int).reverse], _, hp2, by rw [List.append_assoc]; exact hr, ?_, ?_, rfl⟩
        · intro c hc
          rcases List.mem_append.mp hc with z | z
          · exact hs c (List.mem_append_left _ z)
          · exact (w.row m hm c (List.mem_reverse.mp z)).1
        · rw [List.append_assoc, ss_pl]
          simp [List.map_append]
      · rw [List.append_assoc, ss_pl, sg_p0]
        simp
        omega
  · rintro Γ S' ⟨N, o, rfl, rfl⟩
    walk_at "am"
    exact fin_keep (h _)
end
end TR
end

section
set_option linter.all false
set_option maxRecDepth 100000
set_option maxHeartbeats 4000000
/-! Trees: boxes cut out; refusals of a number that doesn't stand. -/
open PySem
namespace AM
theorem rem_at {ns : List Int} {x : Int} (h : x ∈ ns) : ∃ j : Nat, ns[j]? = some x ∧ (∀ m : Nat, m < j → ns[m]? ≠ some x) ∧ ns.eraseIdx j = ns.erase x := by
  refine ⟨ns.idxOf x, ?_, ?_, ?_⟩
  · rw [List.getElem?_eq_getElem (List.idxOf_lt_length_of_mem h), List.getElem_idxOf]
  · intro m hm e
    have := List.not_of_lt_findIdx (p := (· == x)) (xs := ns) (i := m) hm
    obtain ⟨h1, h2⟩ := List.getElem?_eq_some_iff.mp e
    rw [h2] at this
    simp at this
  · exact (List.erase_eq_eraseIdx_of_idxOf rfl).symm
end AM
namespace TR
open PySem AM NM
local macro_rules | `(tactic| walk_at "am") => `(tactic| try simp only [W_dpop1, m_remove, st_set0, st_setS, iteTrue, iteFalse, iteDec, iteNDec, exSome, exBl, W_var, W_int, W_bl, W_non, W_str, W_tup, W_lst, W_bin, W_neg, W_cmp, W_isN, W_notN, W_lrev, W_maxd, W_sortk, wIsb, wNisb, W_chain, W_chain3, W_tst, W_ite, W_call, W_len, W_abs, W_isi, W_sub, WT_val, WT_not, WT_and, WT_or, WA_one, WA_cons, WO_one, WO_cons, WB_val, WB_not, WB_and, WB_or, WBA_one, WBA_cons, WBO_one, WBO_cons, WL_nil, WL_cons, WS_set, WS_ret, WS_retN, WS_pass, WS_brk, WS_cont, WS_drop, WS_ite, WS_raise, WSs_nil, Ss_set, Ss_ret, Ss_retN, Ss_pass, Ss_brk, Ss_cont, Ss_drop, Ss_raise, Ss_ite_ret, Ss_ite_retN, Ss_ite_raise, Ss_ite_cont, Ss_ite_brk, Ss_ite_last, gt_0, gt_S, wAdd_int, wSub_int, wMul_int, wMul_rep, wMul_str, wDiv_int, wMod_int, wPow_int, wAdd_str, wNeg_int, wAbs_int, wLt_int, wLe_int, wGt_int, wGe_int, wEq_int, wNe_int, wEq_bl, wNe_bl, wEq_str, wNe_str, wLen_tup, wLen_lst, tru_bl, tru_int, ty_int_int, ty_int_bool, ty_int_str, ty_int_tuple, ty_int_list, ty_int_dict, ty_bl_int, ty_bl_bool, ty_bl_str, ty_bl_tuple, ty_bl_list, ty_bl_dict, ty_str_int, ty_str_bool, ty_str_str, ty_str_tuple, ty_str_list, ty_str_dict, ty_tup_int, ty_tup_bool, ty_tup_str, ty_tup_tuple, ty_tup_list, ty_tup_dict, ty_lst_int, ty_lst_bool, ty_lst_str, ty_lst_tuple, ty_lst_list, ty_lst_dict, ty_dct_int, ty_dct_bool, ty_dct_str, ty_dct_tuple, ty_dct_list, ty_dct_dict, ty_non, sub_tup0, sub_tup1, sub_tup2, sub_tup3, sub_tup4, sub_tup5, sub_lst0, sub_lst1, sub_lst2, sub_lst3, sub_lst4, sub_lst5, startA, List.map_cons, List.map_nil, List.length_cons, List.length_nil, List.replicate, List.cons_append, List.nil_append, true_and, and_true, ne_eq, isNon, Bool.not_true, Bool.not_false, Bool.true_or, Bool.or_true, Bool.false_or, reduceIte, Nat.reduceAdd, Nat.zero_add, Int.cast_ofNat_Int, Int.reduceEq, Int.reduceLT, Int.reduceLE, Nat.reduceLeDiff, decide_true, decide_false, not_true_eq_false, not_false_eq_true, Nat.reduceSub, Int.reduceToNat, W_slice, W_blt, W_mth, W_comp, WOe_none, WOe_some, WI_seq, WI_keys, WI_items, WI_range1, WI_range2, WI_enum, WI_zip, WI_rev, WI_revr, WI_rangeD, WT0_none, WT0_some, Ss_asg, Ss_setSub, Ss_aug, WS_asg, WS_aug, WS_for, WS_setC, bT_name, bT_tup, bT_lst, bTs_nil, bTs_name, seq_lst, seq_tup, seq_scr, seq_str, seq_loc, en_tup, en_lst, en_scr, en_loc, lst_lst, lst_scr, lst_loc, exInt, exLoc, exLst, exLst1, exLV_lst, exLV_loc, mOk_app, mOk_pop, mOk_ext, mOk_ins, mOk_ind, mOk_join, mOk_indl, m_append, m_pop, m_extend, m_insert, m_join, b_listL, b_listT, b_listS, b_listK, b_tupL, b_tupT, b_tupK, b_max2, b_min2, b_ord, b_str, sl_lst, sl_loc, sl_scr, sl_tupE, sl_strE, cat_lst, cat_loc, cat_tup, wLen_scr, wLen_loc, wLen_str, wSub_scr, wSub_loc, wSub_str, aug_add, aug_sub, tru_lst, tru_tup, tru_non, ty_scr_list, sg_p0, sg_pl, ss_p0, ss_pl, ob_set0, ob_set1, ob_set2, ob_set3, ob_g0, ob_g1, ob_g2, ob_g3, List.append_assoc, List.length_append, List.nil_append, Nat.add_zero, Nat.add_assoc, Int.reduceNeg, wipeA, orc_run, orc_glob, orc_init, orc_isa, orc_gdct, W_isc, W_isE, W_isEt, orc_xk, m_upper, m_partition, m_split, m_endswith, m_find, mOk_upper, mOk_partition, mOk_split, mOk_endswith, mOk_find, b_intB, W_glob, W_gget, W_fld, W_mcall, W_make, W_make0, W_dsp, Ss_setFld, subO_l, subO_d, subO_k, lenO_l, lenO_d, listO_l, listO_d, putO_l, keyV_int, keyV_str, wIn_str, wNotin_str, mapSome, at_0, at_1, at_2, at_3, at_4, at_5, ix_1_0, ix_2_0, ix_2_1, ix_3_0, ix_3_1, ix_3_2, ix_4_0, ix_4_1, ix_4_2, ix_4_3, va_s0, va_s1, va_s2, va_s3])
local macro_rules | `(tactic| walk_at "if") => `(tactic| (try simp only []); rw [Ss_ite]; simp only [W_dpop1, m_remove, st_set0, st_setS, iteTrue, iteFalse, iteDec, iteNDec, exSome, exBl, W_var, W_int, W_bl, W_non, W_str, W_tup, W_lst, W_bin, W_neg, W_cmp, W_isN, W_notN, W_lrev, W_maxd, W_sortk, wIsb, wNisb, W_chain, W_chain3, W_tst, W_ite, W_call, W_len, W_abs, W_isi, W_sub, WT_val, WT_not, WT_and, WT_or, WA_one, WA_cons, WO_one, WO_cons, WB_val, WB_not, WB_and, WB_or, WBA_one, WBA_cons, WBO_one, WBO_cons, WL_nil, WL_cons, WS_set, WS_ret, WS_retN, WS_pass, WS_brk, WS_cont, WS_drop, WS_ite, WS_raise, WSs_nil, Ss_set, Ss_ret, Ss_retN, Ss_pass, Ss_brk, Ss_cont, Ss_drop, Ss_raise, Ss_ite_ret, Ss_ite_retN, Ss_ite_raise, Ss_ite_cont, Ss_ite_brk, Ss_ite_last, gt_0, gt_S, wAdd_int, wSub_int, wMul_int, wMul_rep, wMul_str, wDiv_int, wMod_int, wPow_int, wAdd_str, wNeg_int, wAbs_int, wLt_int, wLe_int, wGt_int, wGe_int, wEq_int, wNe_int, wEq_bl, wNe_bl, wEq_str, wNe_str, wLen_tup, wLen_lst, tru_bl, tru_int, ty_int_int, ty_int_bool, ty_int_str, ty_int_tuple, ty_int_list, ty_int_dict, ty_bl_int, ty_bl_bool, ty_bl_str, ty_bl_tuple, ty_bl_list, ty_bl_dict, ty_str_int, ty_str_bool, ty_str_str, ty_str_tuple, ty_str_list, ty_str_dict, ty_tup_int, ty_tup_bool, ty_tup_str, ty_tup_tuple, ty_tup_list, ty_tup_dict, ty_lst_int, ty_lst_bool, ty_lst_str, ty_lst_tuple, ty_lst_list, ty_lst_dict, ty_dct_int, ty_dct_bool, ty_dct_str, ty_dct_tuple, ty_dct_list, ty_dct_dict, ty_non, sub_tup0, sub_tup1, sub_tup2, sub_tup3, sub_tup4, sub_tup5, sub_lst0, sub_lst1, sub_lst2, sub_lst3, sub_lst4, sub_lst5, startA, List.map_cons, List.map_nil, List.length_cons, List.length_nil, List.replicate, List.cons_append, List.nil_append, true_and, and_true, ne_eq, isNon, Bool.not_true, Bool.not_false, Bool.true_or, Bool.or_true, Bool.false_or, reduceIte, Nat.reduceAdd, Nat.zero_add, Int.cast_ofNat_Int, Int.reduceEq, Int.reduceLT, Int.reduceLE, Nat.reduceLeDiff, decide_true, decide_false, not_true_eq_false, not_false_eq_true, Nat.reduceSub, Int.reduceToNat, W_slice, W_blt, W_mth, W_comp, WOe_none, WOe_some, WI_seq, WI_keys, WI_items, WI_range1, WI_range2, WI_enum, WI_zip, WI_rev, WI_revr, WI_rangeD, WT0_none, WT0_some, Ss_asg, Ss_setSub, Ss_aug, WS_asg, WS_aug, WS_for, WS_setC, bT_name, bT_tup, bT_lst, bTs_nil, bTs_name, seq_lst, seq_tup, seq_scr, seq_str, seq_loc, en_tup, en_lst, en_scr, en_loc, lst_lst, lst_scr, lst_loc, exInt, exLoc, exLst, exLst1, exLV_lst, exLV_loc, mOk_app, mOk_pop, mOk_ext, mOk_ins, mOk_ind, mOk_join, mOk_indl, m_append, m_pop, m_extend, m_insert, m_join, b_listL, b_listT, b_listS, b_listK, b_tupL, b_tupT, b_tupK, b_max2, b_min2, b_ord, b_str, sl_lst, sl_loc, sl_scr, sl_tupE, sl_strE, cat_lst, cat_loc, cat_tup, wLen_scr, wLen_loc, wLen_str, wSub_scr, wSub_loc, wSub_str, aug_add, aug_sub, tru_lst, tru_tup, tru_non, ty_scr_list, sg_p0, sg_pl, ss_p0, ss_pl, ob_set0, ob_set1, ob_set2, ob_set3, ob_g0, ob_g1, ob_g2, ob_g3, List.append_assoc, List.length_append, List.nil_append, Nat.add_zero, Nat.add_assoc, Int.reduceNeg, wipeA, orc_run, orc_glob, orc_init, orc_isa, orc_gdct, W_isc, W_isE, W_isEt, orc_xk, m_upper, m_partition, m_split, m_endswith, m_find, mOk_upper, mOk_partition, mOk_split, mOk_endswith, mOk_find, b_intB, W_glob, W_gget, W_fld, W_mcall, W_make, W_make0, W_dsp, Ss_setFld, subO_l, subO_d, subO_k, lenO_l, lenO_d, listO_l, listO_d, putO_l, keyV_int, keyV_str, wIn_str, wNotin_str, mapSome, at_0, at_1, at_2, at_3, at_4, at_5, ix_1_0, ix_2_0, ix_2_1, ix_3_0, ix_3_1, ix_3_2, ix_4_0, ix_4_1, ix_4_2, ix_4_3, va_s0, va_s1, va_s2, va_s3])
/-! ### a number that doesn't stand -/
section
variable {M : Mem} {S : Sto} {i : Nat} {τ : Tre} (t : TreeAt M S i τ) {n : Int} (hn : n ∉ τ.nums) {P : PV} {E : PX} (hE : E "NoBox" S)
include t hn hE
theorem found_no (k : Nat) : call Hd.T (k + 1) "Tree.found" [.loc (M.L (.tree i)), .int n] S P E := by
  refine call_def (d := Hd.f_Tree_found) rfl rfl ?_
  unfold Hd.f_Tree_found
  walk_at "am"
  refine ⟨_, t.tree.1, _, rfl, _, t.stand.1, _, rfl, ?_⟩
  rw [dget_kd_is, decide_eq_false hn]
  refine ⟨true, rfl, ?_⟩
  walk_at "am"
  exact finX_keep hE
theorem name_of_no (k : Nat) : call Hd.T (k + 2) "Tree.name_of" [.loc (M.L (.tree i)), .int n] S P E := by
  refine call_def (d := Hd.f_Tree_name_of) rfl rfl ?_
  unfold Hd.f_Tree_name_of
  walk_at "am"
  exact ⟨_, t.tree.1, _, rfl, found_no t hn (finX_keep hE) k⟩
theorem marks_of_no (k : Nat) : call Hd.T (k + 2) "Tree.marks_of" [.loc (M.L (.tree i)), .int n] S P E := by
  refine call_def (d := Hd.f_Tree_marks_of) rfl rfl ?_
  unfold Hd.f_Tree_marks_of
  walk_at "am"
  exact ⟨_, t.tree.1, _, rfl, found_no t hn (finX_keep hE) k⟩
theorem boxes_of_no (k : Nat) : call Hd.T (k + 2) "Tree.boxes_of" [.loc (M.L (.tree i)), .int n] S P E := by
  refine call_def (d := Hd.f_Tree_boxes_of) rfl rfl ?_
  unfold Hd.f_Tree_boxes_of
  walk_at "am"
  exact ⟨_, t.tree.1, _, rfl, found_no t hn (finX_keep hE) k⟩
end
/-! ### a box cut out -/
/-- the box b, beneath h, is gone with all beneath it -/
def Tre.cut (τ : Tre) (b h : Int) : Tre := { τ with nums := τ.nums.filter fun n => decide (n ∉ τ.und b), row := up τ.row h ((τ.row h).erase b) }
section
variable {τ : Tre} {b h : Int}
theorem cut_mem {n : Int} : n ∈ (τ.cut b h).nums ↔ n ∈ τ.nums ∧ n ∉ τ.und b := by
  show n ∈ τ.nums.filter _ ↔ _
  rw [List.mem_filter, decide_eq_true_iff]
theorem WF.cut (w : WF τ) (hb : b ∈ τ.nums) (h0 : b ≠ 0) (hh : τ.hold b = some h) : WF (τ.cut b h) := by
  obtain ⟨g, g1, g2, g3, g4⟩ := w.up b hb h0
  rw [hh] at g1; cases g1
  have hk : h ∉ τ.und b := fun z => by
    obtain ⟨_, e | e⟩ := w.deep_le hb ((w.und_iff hb).mp z)
    · rw [e] at g4; omega
    · omega
  have hself : b ∈ τ.und b := sub_self 12 b
  refine ⟨w.nd.filter _, cut_mem.mpr ⟨w.z, w.und0 hb h0⟩, fun n hn => w.lt n (cut_mem.mp hn).1, w.h0, w.d0, ?_, ?_, ?_, fun n hn => w.nm n (cut_mem.mp hn).1, fun n hn => w.dp n (cut_mem.mp hn).1⟩
  · intro n hn n0
    obtain ⟨m1, m2⟩ := cut_mem.mp hn
    obtain ⟨g, e1, e2, e3, e4⟩ := w.up n m1 n0
    have gk : g ∉ τ.und b := fun z => m2 ((w.und_iff hb).mpr (.step ((w.und_iff hb).mp z) e3))
    refine ⟨g, e1, cut_mem.mpr ⟨e2, gk⟩, ?_, e4⟩
    show n ∈ TR.up τ.row h _ g
    by_cases c : g = h
    · subst c
      rw [up_eq]
      exact (List.mem_erase_of_ne (fun (e : n = b) => m2 (by rw [e]; exact hself))).mpr e3
    · rw [up_ne c]; exact e3
  · intro g hg
    obtain ⟨m1, m2⟩ := cut_mem.mp hg
    show (TR.up τ.row h _ g).Nodup
    by_cases c : g = h
    · subst c; rw [up_eq]; exact (w.rnd g m1).erase _
    · rw [up_ne c]; exact w.rnd g m1
  · intro g hg n hn
    obtain ⟨m1, m2⟩ := cut_mem.mp hg
    have hn' : n ∈ τ.row g ∧ n ≠ b := by
      replace hn : n ∈ TR.up τ.row h ((τ.row h).erase b) g := hn
      by_cases c : g = h
      · subst c
        rw [up_eq] at hn
        exact ⟨List.mem_of_mem_erase hn, fun e => by rw [e] at hn; exact (w.rnd g m1).not_mem_erase hn⟩
      · rw [up_ne c] at hn
        refine ⟨hn, fun e => ?_⟩
        rw [e] at hn
        have := (w.row g m1 b hn).2
        rw [hh] at this; cases this
        exact c rfl
    obtain ⟨k1, k2⟩ := w.row g m1 n hn'.1
    exact ⟨cut_mem.mpr ⟨k1, fun z => m2 (w.und_hold hb z hn'.2 k2)⟩, k2⟩
end
/-- pops one after another -/
theorem ddrops {f : Int → Va} (gs : List Int) (ns : List Int) : gs.foldl (fun kvs n => ddrop kvs (.inl n)) (kd ns f) = kd (ns.filter fun n => decide (n ∉ gs)) f := by
  induction gs generalizing ns with
  | nil =>
    have : (ns.filter fun n => decide (n ∉ ([] : List Int))) = ns := List.filter_eq_self.mpr (by simp)
    rw [this]; rfl
  | cons g r ih =>
    rw [List.foldl_cons, ddrop_kd, ih, List.filter_filter]
    congr 1
    refine List.filter_congr fun n _ => ?_
    rw [Bool.eq_iff_iff]
    simp
    exact And.comm
section
variable {M : Mem} {S : Sto} {i : Nat} {τ : Tre} (w : WF τ) (t : TreeAt M S i τ) {b h : Int} {P : PV} {E : PX}
include w t
theorem cut_ok (k : Nat) (hb : b ∈ τ.nums) (h0 : b ≠ 0) (hh : τ.hold b = some h) (hl : τ.nums.length ≤ 1000)
    (hP : ∀ S', S'[S.length]? = some (.lst ((τ.und b).map Va.int)) → S.length < S'.length → TreeAt M S' i (τ.cut b h) → Fr (fun a => a.of i = false) M S M S' → P (.loc S.length) S') :
    call Hd.T (k + 3) "Tree.cut" [.loc (M.L (.tree i)), .int b] S P E := by
  refine call_def (d := Hd.f_Tree_cut) rfl rfl ?_
  unfold Hd.f_Tree_cut
  walk_at "am"
  refine ⟨_, t.tree.1, _, rfl, withall_ok w t _ hb hl fun N => ?_⟩
  walk_at "am"
  rw [if_neg h0]
  walk_at "am"
  obtain ⟨U, hU⟩ : ∃ U, U = (τ.und b).map Va.int := ⟨_, rfl⟩
  rw [← hU]
  have t1 := t.app (N := .lst U :: N)
  have ho := w.up b hb h0
  obtain ⟨g, g1, hhn, hbr, hdp⟩ := ho
  rw [hh] at g1; cases g1
  refine ⟨_, t1.tree.1, _, rfl, _, t1.tree.1, _, rfl, found_ok t1 _ hb ?_⟩
  refine ⟨_, rfl, _, (t1.box b hb).bx.1, _, rfl, ?_⟩
  rw [hh]
  refine found_ok t1 _ hhn ?_
  obtain ⟨j, r1, r2, r3⟩ := rem_at hbr
  have rw1 := (t1.box h hhn).row
  refine ⟨_, rfl, _, (t1.box h hhn).bx.1, _, rfl, ⟨_, .inr ⟨_, rfl, rw1.1⟩⟩, ?_⟩
  walk_at "am"
  refine ⟨τ.row h, j, rw1.1, r1, r2, ?_⟩
  rw [r3]
  obtain ⟨S2, hS2⟩ : ∃ S2, S2 = (S ++ .lst U :: N).set (M.L (.row i h)) (.lst (((τ.row h).erase b).map Va.int)) := ⟨_, rfl⟩
  rw [← hS2]
  have f1 : Fr (· ≠ .row i h) M (S ++ .lst U :: N) M S2 := by rw [hS2]; exact Fr.set rw1 _
  have rw2 : Pt M S2 (.row i h) (.lst (((τ.row h).erase b).map Va.int)) := by rw [hS2]; exact rw1.here
  have st2 := (f1 _ _ (by simp) t1.stand).2
  have tr2 := (f1 _ _ (by simp) t1.tree).2
  have hg2 : ∀ u : Ob, (S2.set (M.L (.stand i)) u)[S.length]? = some (.lst U) := fun u => by
    rw [List.getElem?_set_ne (by have := t.stand.lt; omega), hS2, List.getElem?_set_ne (by have := (t.box h hhn).row.lt; omega), sg_p0]
    rfl
  have hg0 : S2[S.length]? = some (.lst U) := by
    rw [hS2, List.getElem?_set_ne (by have := (t.box h hhn).row.lt; omega), sg_p0]
    rfl
  let kv : Nat → List (L2.Key × Va) := fun j => ((τ.und b).take j).foldl (fun kvs n => ddrop kvs (.inl n)) (kd τ.nums fun n => .loc (M.L (.bx i n)))
  have hkv : ∀ j, kv j = kd (τ.nums.filter fun n => decide (n ∉ (τ.und b).take j)) fun n => .loc (M.L (.bx i n)) := fun j => ddrops _ _
  have hset : S2.set (M.L (.stand i)) (.dct (kv 0)) = S2 := by
    have := unlk (u := .dct (kv 0)) st2.1
    apply List.ext_getElem?
    intro x
    by_cases e : M.L (.stand i) = x
    · subst e
      rw [List.getElem?_set_self st2.lt, st2.1]; rfl
    · rw [List.getElem?_set_ne e]
  refine seq_cut (call_mono _ _) (fun Γ S' => S' = S2.set (M.L (.stand i)) (.dct (kv (τ.und b).length)) ∧ ∃ o, Γ = [some (.loc (M.L (.tree i))), some (.int b), some (.loc S.length), o]) ?_ ?_
  · walk_at "am"
    refine ⟨U, hg0, hg0, ?_⟩
    refine for_ix (call_mono _ _) (fun j Γ S' => S' = S2.set (M.L (.stand i)) (.dct (kv j)) ∧ ∃ o, Γ = [some (.loc (M.L (.tree i))), some (.int b), some (.loc S.length), o]) ⟨hset.symm, none, rfl⟩ ?_ ?_
    · rintro j x Γ S' hx ⟨rfl, o, rfl⟩
      rw [hU] at hx
      obtain ⟨n, hn', rfl⟩ := Option.map_eq_some_iff.mp (by rw [List.getElem?_map] at hx; exact hx)
      have hju : j < (τ.und b).length := lt_of_get hn'
      have hnu := List.mem_of_getElem? hn'
      refine ⟨_, rfl, ?_⟩
      have st3 := st2.here (w := .dct (kv j))
      have tr3 := tr2.set st2 (by simp) (w := .dct (kv j))
      walk_at "am"
      refine ⟨_, tr3.1, _, rfl, isD_loc st3.1, ?_⟩
      refine ⟨_, rfl, _, st3.1, .loc (M.L (.bx i n)), ?_, ?_⟩
      · rw [hkv]
        refine dget_kd (f := fun n => Va.loc (M.L (.bx i n))) (List.mem_filter.mpr ⟨w.und_mem hb hnu, decide_eq_true fun z => ?_⟩)
        obtain ⟨a, ha, e⟩ := List.mem_take_iff_getElem.mp z
        have nd := w.und_nd hb
        obtain ⟨q1, q2⟩ := List.getElem?_eq_some_iff.mp hn'
        exact List.pairwise_iff_getElem.mp nd a j (by omega) hju (by omega) (e.trans q2.symm)
      · rw [List.set_set]
        have : ddrop (kv j) (.inl n) = kv (j + 1) := by
          show _ = ((τ.und b).take (j + 1)).foldl _ _
          rw [List.take_succ, hn', List.foldl_append]; rfl
        rw [this]
        exact ⟨hg2 _, rfl, _, rfl⟩
    · rintro Γ S' ⟨rfl, o, rfl⟩
      rw [hU, List.length_map]
      exact ⟨rfl, o, rfl⟩
  rintro Γ S' ⟨rfl, o, rfl⟩
  walk_at "am"
  refine fin_keep (hP _ ?_ ?_ ?_ ?_)
  · rw [hg2, hU]
  · rw [List.length_set, hS2, List.length_set]; simp
  · have f2 : Fr (· ≠ .stand i) M S2 M _ := Fr.set st2 (.dct (kv (τ.und b).length))
    have F : Fr (fun a => a ≠ .row i h ∧ a ≠ .stand i) M (S ++ .lst U :: N) M _ := (f1.weak fun a z => z.1).trans (f2.weak fun a z => z.2)
    refine ⟨(F _ _ (by simp) t1.tree).2, ?_, ?_⟩
    · have := st2.here (w := .dct (kv (τ.und b).length))
      have e : kv (τ.und b).length = kd (τ.cut b h).nums fun n => .loc (M.L (.bx i n)) := by
        rw [hkv, List.take_length]; rfl
      rw [e] at this ⊢
      exact this
    · intro n hn
      obtain ⟨m1, m2⟩ := cut_mem.mp hn
      by_cases c : n = h
      · subst c
        have B := t1.box n m1
        have r : (τ.cut b n).row n = (τ.row n).erase b := up_eq
        exact ⟨(F _ _ (by simp) B.bx).2, by rw [r]; exact (f2 _ _ (by simp) rw2).2, (F _ _ (by simp) B.marks).2, (F _ _ (by simp) B.words).2⟩
      · exact (t1.box n m1).fr F (by simp) (by simp [c]) (by simp) (by simp) rfl rfl rfl (up_ne c) rfl rfl rfl
  · refine Fr.trans (Fr.app (N := .lst U :: N)) (Fr.trans (f1.weak fun a z => by rintro rfl; simp [Tag.of] at z) ((Fr.set st2 _).weak fun a z => by rintro rfl; simp [Tag.of] at z))
end
end TR
end

section
set_option linter.all false
set_option maxRecDepth 100000
set_option maxHeartbeats 4000000
/-! Trees: the walks of walks.py. -/
open PySem
namespace AM
theorem pds_ivs : ∀ ns : List Int, pds (ns.map Va.int) = ns.map PyData.int
  | [] => rfl
  | n :: r => by rw [List.map_cons, List.map_cons]; simp only [pds, pd, pds_ivs r]
theorem dats_ivs (ns : List Int) : dats (ns.map Va.int) = true := dats_iff.mpr fun x hx => by
  obtain ⟨q, _, rfl⟩ := List.mem_map.mp hx
  rfl
theorem dep_ivs (ns : List Int) : dep (.lst (ns.map Va.int)) ≤ 64 := by
  have h : deps (ns.map Va.int) ≤ 0 := deps_le (n := 0) fun x hx => by
    obtain ⟨q, _, rfl⟩ := List.mem_map.mp hx
    exact Nat.le_refl 0
  exact Nat.le_trans (Nat.succ_le_succ h) (by decide)
theorem ind_ints {S : Sto} {v : Va} {ns : List Int} {x : Int} {P : PV} (hv : LV S v (ns.map Va.int)) (hx : x ∈ ns) (h : P (.int (ns.idxOf x : Nat)) S) : wMth .index v [.int x] S P := by
  have h1 : SeqAt.shaped (pd (.lst (ns.map Va.int))) = true := pd_shaped (v := .lst (ns.map Va.int)) (dats_ivs _) (dep_ivs _)
  have key : ∃ d ds j z, DV S v (.list ds) ∧ DV S (.int x) d ∧ SeqAt.shaped (.list ds) = true ∧ SeqAt.shaped d = true ∧ ds[j]? = some z ∧ PyData.eqv z d = true ∧ (∀ (m : Nat) (z' : PyData), m < j → ds[m]? = some z' → PyData.eqv z' d = false) ∧ P (.int (j : Nat)) S := by
    refine ⟨.int x, pds (ns.map Va.int), ns.idxOf x, .int x, LV.dv hv (dats_ivs _), dv_pd (v := .int x) rfl, h1, pd_shaped (v := .int x) rfl (by simp [dep]), ?_, by simp [PyData.eqv], ?_, h⟩
    · rw [pds_ivs, List.getElem?_map, List.getElem?_eq_getElem (List.idxOf_lt_length_of_mem hx), List.getElem_idxOf]; rfl
    · intro m z' hm hz
      rw [pds_ivs, List.getElem?_map] at hz
      obtain ⟨y, hy, rfl⟩ := Option.map_eq_some_iff.mp hz
      have := List.not_of_lt_findIdx (p := (· == x)) (xs := ns) (i := m) hm
      obtain ⟨q1, q2⟩ := List.getElem?_eq_some_iff.mp hy
      rw [q2] at this
      have ne : y ≠ x := by simpa using this
      simp [PyData.eqv, ne]
  exact key
theorem ind_ok {S : Sto} {v : Va} {ns : List Int} (hv : LV S v (ns.map Va.int)) : mOk S .index v := by
  rcases hv with rfl | ⟨k, rfl, hk⟩
  · rw [mOk_indl]; trivial
  · rw [mOk_ind]; exact ⟨_, hk⟩
/-- a test first, then its two ways -/
theorem ite_cut {C : Orc} (hC : OrcMono C) {t : Te} {a b : Sms} {D : AEnds} {Γ : Env} {S : Sto} (Q : Bool → Sto → Prop) (h1 : WT C t Γ S Q (fun x S1 => D.ex x Γ S1)) (h2 : ∀ S1, Q true S1 → WSs C a D Γ S1) (h3 : ∀ S1, Q false S1 → WSs C b D Γ S1) : WS C (.ite t a b) D Γ S :=
  WT_mono hC t Γ S Q _ _ _ (fun v S1 q => by
    cases v
    · exact h3 S1 q
    · exact h2 S1 q) (fun _ _ z => z) h1
theorem cut_from {α : Type} {l : List α} {k : Nat} (h : k ≤ l.length) : cutA l (some (k : Int)) none = l.drop k := by
  unfold cutA
  rw [HT.sIx_nat, HT.sIx_none, Nat.min_eq_left h]
  exact List.take_of_length_le (by rw [List.length_drop]; omega)
end AM
namespace TR
open PySem AM NM
local macro_rules | `(tactic| walk_at "am") => `(tactic| try simp only [st_set0, st_setS, iteTrue, iteFalse, iteDec, iteNDec, exSome, exBl, W_var, W_int, W_bl, W_non, W_str, W_tup, W_lst, W_bin, W_neg, W_cmp, W_isN, W_notN, W_lrev, W_maxd, W_sortk, wIsb, wNisb, W_chain, W_chain3, W_tst, W_ite, W_call, W_len, W_abs, W_isi, W_sub, WT_val, WT_not, WT_and, WT_or, WA_one, WA_cons, WO_one, WO_cons, WB_val, WB_not, WB_and, WB_or, WBA_one, WBA_cons, WBO_one, WBO_cons, WL_nil, WL_cons, WS_set, WS_ret, WS_retN, WS_pass, WS_brk, WS_cont, WS_drop, WS_ite, WS_raise, WSs_nil, Ss_set, Ss_ret, Ss_retN, Ss_pass, Ss_brk, Ss_cont, Ss_drop, Ss_raise, Ss_ite_ret, Ss_ite_retN, Ss_ite_raise, Ss_ite_cont, Ss_ite_brk, Ss_ite_last, gt_0, gt_S, wAdd_int, wSub_int, wMul_int, wMul_rep, wMul_str, wDiv_int, wMod_int, wPow_int, wAdd_str, wNeg_int, wAbs_int, wLt_int, wLe_int, wGt_int, wGe_int, wEq_int, wNe_int, wEq_bl, wNe_bl, wEq_str, wNe_str, wLen_tup, wLen_lst, tru_bl, tru_int, ty_int_int, ty_int_bool, ty_int_str, ty_int_tuple, ty_int_list, ty_int_dict, ty_bl_int, ty_bl_bool, ty_bl_str, ty_bl_tuple, ty_bl_list, ty_bl_dict, ty_str_int, ty_str_bool, ty_str_str, ty_str_tuple, ty_str_list, ty_str_dict, ty_tup_int, ty_tup_bool, ty_tup_str, ty_tup_tuple, ty_tup_list, ty_tup_dict, ty_lst_int, ty_lst_bool, ty_lst_str, ty_lst_tuple, ty_lst_list, ty_lst_dict, ty_dct_int, ty_dct_bool, ty_dct_str, ty_dct_tuple, ty_dct_list, ty_dct_dict, ty_non, sub_tup0, sub_tup1, sub_tup2, sub_tup3, sub_tup4, sub_tup5, sub_lst0, sub_lst1, sub_lst2, sub_lst3, sub_lst4, sub_lst5, startA, List.map_cons, List.map_nil, List.length_cons, List.length_nil, List.replicate, List.cons_append, List.nil_append, true_and, and_true, ne_eq, isNon, Bool.not_true, Bool.not_false, Bool.true_or, Bool.or_true, Bool.false_or, reduceIte, Nat.reduceAdd, Nat.zero_add, Int.cast_ofNat_Int, Int.reduceEq, Int.reduceLT, Int.reduceLE, Nat.reduceLeDiff, decide_true, decide_false, not_true_eq_false, not_false_eq_true, Nat.reduceSub, Int.reduceToNat, W_slice, W_blt, W_mth, W_comp, WOe_none, WOe_some, WI_seq, WI_keys, WI_items, WI_range1, WI_range2, WI_enum, WI_zip, WI_rev, WI_revr, WI_rangeD, WT0_none, WT0_some, Ss_asg, Ss_setSub, Ss_aug, WS_asg, WS_aug, WS_for, WS_setC, bT_name, bT_tup, bT_lst, bTs_nil, bTs_name, seq_lst, seq_tup, seq_scr, seq_str, seq_loc, en_tup, en_lst, en_scr, en_loc, lst_lst, lst_scr, lst_loc, exInt, exLoc, exLst, exLst1, exLV_lst, exLV_loc, mOk_app, mOk_pop, mOk_ext, mOk_ins, mOk_ind, mOk_join, mOk_indl, m_append, m_pop, m_extend, m_insert, m_join, b_listL, b_listT, b_listS, b_listK, b_tupL, b_tupT, b_tupK, b_max2, b_min2, b_ord, b_str, sl_lst, sl_loc, sl_scr, sl_tupE, sl_strE, cat_lst, cat_loc, cat_tup, wLen_scr, wLen_loc, wLen_str, wSub_scr, wSub_loc, wSub_str, aug_add, aug_sub, tru_lst, tru_tup, tru_non, ty_scr_list, sg_p0, sg_pl, ss_p0, ss_pl, ob_set0, ob_set1, ob_set2, ob_set3, ob_g0, ob_g1, ob_g2, ob_g3, List.append_assoc, List.length_append, List.nil_append, Nat.add_zero, Nat.add_assoc, Int.reduceNeg, wipeA, orc_run, orc_glob, orc_init, orc_isa, orc_gdct, W_isc, W_isE, W_isEt, orc_xk, m_upper, m_partition, m_split, m_endswith, m_find, mOk_upper, mOk_partition, mOk_split, mOk_endswith, mOk_find, b_intB, W_glob, W_gget, W_fld, W_mcall, W_make, W_make0, W_dsp, Ss_setFld, subO_l, subO_d, subO_k, lenO_l, lenO_d, listO_l, listO_d, putO_l, keyV_int, keyV_str, wIn_str, wNotin_str, mapSome, at_0, at_1, at_2, at_3, at_4, at_5, ix_1_0, ix_2_0, ix_2_1, ix_3_0, ix_3_1, ix_3_2, ix_4_0, ix_4_1, ix_4_2, ix_4_3, va_s0, va_s1, va_s2, va_s3])
local macro_rules | `(tactic| walk_at "if") => `(tactic| (try simp only []); rw [Ss_ite]; simp only [st_set0, st_setS, iteTrue, iteFalse, iteDec, iteNDec, exSome, exBl, W_var, W_int, W_bl, W_non, W_str, W_tup, W_lst, W_bin, W_neg, W_cmp, W_isN, W_notN, W_lrev, W_maxd, W_sortk, wIsb, wNisb, W_chain, W_chain3, W_tst, W_ite, W_call, W_len, W_abs, W_isi, W_sub, WT_val, WT_not, WT_and, WT_or, WA_one, WA_cons, WO_one, WO_cons, WB_val, WB_not, WB_and, WB_or, WBA_one, WBA_cons, WBO_one, WBO_cons, WL_nil, WL_cons, WS_set, WS_ret, WS_retN, WS_pass, WS_brk, WS_cont, WS_drop, WS_ite, WS_raise, WSs_nil, Ss_set, Ss_ret, Ss_retN, Ss_pass, Ss_brk, Ss_cont, Ss_drop, Ss_raise, Ss_ite_ret, Ss_ite_retN, Ss_ite_raise, Ss_ite_cont, Ss_ite_brk, Ss_ite_last, gt_0, gt_S, wAdd_int, wSub_int, wMul_int, wMul_rep, wMul_str, wDiv_int, wMod_int, wPow_int, wAdd_str, wNeg_int, wAbs_int, wLt_int, wLe_int, wGt_int, wGe_int, wEq_int, wNe_int, wEq_bl, wNe_bl, wEq_str, wNe_str, wLen_tup, wLen_lst, tru_bl, tru_int, ty_int_int, ty_int_bool, ty_int_str, ty_int_tuple, ty_int_list, ty_int_dict, ty_bl_int, ty_bl_bool, ty_bl_str, ty_bl_tuple, ty_bl_list, ty_bl_dict, ty_str_int, ty_str_bool, ty_str_str, ty_str_tuple, ty_str_list, ty_str_dict, ty_tup_int, ty_tup_bool, ty_tup_str, ty_tup_tuple, ty_tup_list, ty_tup_dict, ty_lst_int, ty_lst_bool, ty_lst_str, ty_lst_tuple, ty_lst_list, ty_lst_dict, ty_dct_int, ty_dct_bool, ty_dct_str, ty_dct_tuple, ty_dct_list, ty_dct_dict, ty_non, sub_tup0, sub_tup1, sub_tup2, sub_tup3, sub_tup4, sub_tup5, sub_lst0, sub_lst1, sub_lst2, sub_lst3, sub_lst4, sub_lst5, startA, List.map_cons, List.map_nil, List.length_cons, List.length_nil, List.replicate, List.cons_append, List.nil_append, true_and, and_true, ne_eq, isNon, Bool.not_true, Bool.not_false, Bool.true_or, Bool.or_true, Bool.false_or, reduceIte, Nat.reduceAdd, Nat.zero_add, Int.cast_ofNat_Int, Int.reduceEq, Int.reduceLT, Int.reduceLE, Nat.reduceLeDiff, decide_true, decide_false, not_true_eq_false, not_false_eq_true, Nat.reduceSub, Int.reduceToNat, W_slice, W_blt, W_mth, W_comp, WOe_none, WOe_some, WI_seq, WI_keys, WI_items, WI_range1, WI_range2, WI_enum, WI_zip, WI_rev, WI_revr, WI_rangeD, WT0_none, WT0_some, Ss_asg, Ss_setSub, Ss_aug, WS_asg, WS_aug, WS_for, WS_setC, bT_name, bT_tup, bT_lst, bTs_nil, bTs_name, seq_lst, seq_tup, seq_scr, seq_str, seq_loc, en_tup, en_lst, en_scr, en_loc, lst_lst, lst_scr, lst_loc, exInt, exLoc, exLst, exLst1, exLV_lst, exLV_loc, mOk_app, mOk_pop, mOk_ext, mOk_ins, mOk_ind, mOk_join, mOk_indl, m_append, m_pop, m_extend, m_insert, m_join, b_listL, b_listT, b_listS, b_listK, b_tupL, b_tupT, b_tupK, b_max2, b_min2, b_ord, b_str, sl_lst, sl_loc, sl_scr, sl_tupE, sl_strE, cat_lst, cat_loc, cat_tup, wLen_scr, wLen_loc, wLen_str, wSub_scr, wSub_loc, wSub_str, aug_add, aug_sub, tru_lst, tru_tup, tru_non, ty_scr_list, sg_p0, sg_pl, ss_p0, ss_pl, ob_set0, ob_set1, ob_set2, ob_set3, ob_g0, ob_g1, ob_g2, ob_g3, List.append_assoc, List.length_append, List.nil_append, Nat.add_zero, Nat.add_assoc, Int.reduceNeg, wipeA, orc_run, orc_glob, orc_init, orc_isa, orc_gdct, W_isc, W_isE, W_isEt, orc_xk, m_upper, m_partition, m_split, m_endswith, m_find, mOk_upper, mOk_partition, mOk_split, mOk_endswith, mOk_find, b_intB, W_glob, W_gget, W_fld, W_mcall, W_make, W_make0, W_dsp, Ss_setFld, subO_l, subO_d, subO_k, lenO_l, lenO_d, listO_l, listO_d, putO_l, keyV_int, keyV_str, wIn_str, wNotin_str, mapSome, at_0, at_1, at_2, at_3, at_4, at_5, ix_1_0, ix_2_0, ix_2_1, ix_3_0, ix_3_1, ix_3_2, ix_4_0, ix_4_1, ix_4_2, ix_4_3, va_s0, va_s1, va_s2, va_s3])
/-- the row that a box stands in; the root's own -/
def Tre.row1 (τ : Tre) (n : Int) : List Int := match τ.hold n with | none => [n] | some g => τ.row g
def Tre.spot (τ : Tre) (n : Int) : Nat := (τ.row1 n).idxOf n
theorem WF.row1 {τ : Tre} (w : WF τ) {n : Int} (hn : n ∈ τ.nums) : n ∈ τ.row1 n ∧ (τ.row1 n).length ≤ τ.nums.length := by
  unfold Tre.row1
  by_cases h0 : n = 0
  · subst h0
    rw [w.h0]
    exact ⟨List.mem_singleton.mpr rfl, List.length_pos_of_mem w.z⟩
  · obtain ⟨g, g1, g2, g3, _⟩ := w.up n hn h0
    rw [g1]
    exact ⟨g3, w.rlen g2⟩
section
variable {M : Mem} {S : Sto} {i : Nat} {τ : Tre} (w : WF τ) (t : TreeAt M S i τ) {n : Int} {P : PV} {E : PX}
include w t
theorem beneath_ok (k : Nat) (hn : n ∈ τ.nums) (hl : τ.nums.length ≤ 1000) (h : ∀ N, P (.loc S.length) (S ++ (.lst ((τ.und n).tail.map Va.int) :: N))) : call Hd.T (k + 3) "beneath" [.loc (M.L (.tree i)), .int n] S P E := by
  refine call_def (d := Hd.f_beneath) rfl rfl ?_
  unfold Hd.f_beneath
  walk_at "am"
  have t0 : TreeAt M (S ++ [.lst []]) i τ := t.app
  refine ⟨_, t0.tree.1, _, rfl, boxes_of_ok t0 _ hn ?_⟩
  refine ⟨_, .inl (.inl rfl), ?_⟩
  obtain ⟨zs, ez, hp0⟩ := Pre.next (xs := []) (w.und hn)
  have etl : (τ.und n).tail = zs := by rw [ez]; rfl
  rw [List.nil_append] at hp0
  rw [show (S ++ [Ob.lst []]).length = S.length + 1 by simp, ← List.map_reverse]
  refine seq_cut (call_mono _ _) (fun Γ S' => ∃ N o, S' = S ++ (.lst (zs.map Va.int) :: N) ∧ Γ = [some (.loc (M.L (.tree i))), some (.int n), some (.loc S.length), some (.loc (S.length + 1)), o]) ?_ ?_
  · refine wh_rule (call_mono _ _) (fun Γ S' => ∃ told stack rest N o, Pre τ.row stack rest ∧ told ++ rest = zs ∧ (∀ m ∈ stack, m ∈ τ.nums) ∧ S' = S ++ (.lst (told.map Va.int) :: .lst (stack.map Va.int) :: N) ∧ Γ = [some (.loc (M.L (.tree i))), some (.int n), some (.loc S.length), some (.loc (S.length + 1)), o]) (fun Γ S' => match S'[S.length]? with | some (.lst xs) => 1000 - xs.length | _ => 0) ⟨[], (τ.row n).reverse, _, [], none, hp0, rfl, fun m hm => (w.row n hn m (List.mem_reverse.mp hm)).1, by simp, rfl⟩ ?_
    rintro Γ S' ⟨told, stack, rest, N, o, hp, hr, hs, rfl, rfl⟩
    walk_at "am"
    have hst : (S ++ Ob.lst (told.map Va.int) :: Ob.lst (stack.map Va.int) :: N)[S.length + 1]? = some (.lst (stack.map Va.int)) := by rw [sg_pl]; rfl
    refine ⟨_, tru_loc hst, ?_⟩
    have hlen := w.und_len hn
    rw [ez, ← hr, List.length_cons, List.length_append] at hlen
    rcases List.eq_nil_or_concat stack with e | ⟨xs, m, e⟩
    · subst e
      have er := hp.empty.mp rfl
      subst er
      rw [List.append_nil] at hr
      subst hr
      exact ⟨_, _, rfl, rfl⟩
    · rw [List.concat_eq_append] at e
      subst e
      obtain ⟨ys, ey, hp2⟩ := hp.next
      subst ey
      have hm : m ∈ τ.nums := hs m (by simp)
      rw [if_pos (by simp)]
      rw [List.length_cons] at hlen
      refine ⟨_, pop_last, by rw [List.length_map]; omega, ?_⟩
      rw [drop_last]
      have t1 := t.app (N := Ob.lst (told.map Va.int ++ [.int m]) :: Ob.lst (xs.map Va.int) :: N)
      refine ⟨_, t1.tree.1, _, rfl, boxes_of_ok t1 _ hm ?_⟩
      have hrl := w.rlen hm
      have hsl := hp2.len
      rw [List.length_append, List.length_reverse] at hsl
      refine ⟨_, .inl (.inl rfl), xs.map Va.int, ?_, ?_, ?_, ?_⟩
      · rw [List.append_assoc, sg_pl]; rfl
      · simp; omega
      · refine ⟨told ++ [m], xs ++ (τ.row m).reverse, ys, N ++ [.lst ((τ.row m).map Va.int).reverse], _, hp2, by rw [List.append_assoc]; exact hr, ?_, ?_, rfl⟩
        · intro c hc
          rcases List.mem_append.mp hc with z | z
          · exact hs c (List.mem_append_left _ z)
          · exact (w.row m hm c (List.mem_reverse.mp z)).1
        · rw [List.append_assoc, ss_pl]
          simp [List.map_append]
      · rw [List.append_assoc, ss_pl, sg_p0]
        simp
        omega
  · rintro Γ S' ⟨N, o, rfl, rfl⟩
    walk_at "am"
    refine fin_keep ?_
    rw [← etl]
    exact h _
end
end TR
end

section
set_option linter.all false
set_option maxRecDepth 100000
set_option maxHeartbeats 4000000
/-! Trees: the law's own walk beneath; one tree at the start. -/
open PySem
namespace TR
open PySem AM NM
local macro_rules | `(tactic| walk_at "am") => `(tactic| try simp only [st_set0, st_setS, iteTrue, iteFalse, iteDec, iteNDec, exSome, exBl, W_var, W_int, W_bl, W_non, W_str, W_tup, W_lst, W_bin, W_neg, W_cmp, W_isN, W_notN, W_lrev, W_maxd, W_sortk, wIsb, wNisb, W_chain, W_chain3, W_tst, W_ite, W_call, W_len, W_abs, W_isi, W_sub, WT_val, WT_not, WT_and, WT_or, WA_one, WA_cons, WO_one, WO_cons, WB_val, WB_not, WB_and, WB_or, WBA_one, WBA_cons, WBO_one, WBO_cons, WL_nil, WL_cons, WS_set, WS_ret, WS_retN, WS_pass, WS_brk, WS_cont, WS_drop, WS_ite, WS_raise, WSs_nil, Ss_set, Ss_ret, Ss_retN, Ss_pass, Ss_brk, Ss_cont, Ss_drop, Ss_raise, Ss_ite_ret, Ss_ite_retN, Ss_ite_raise, Ss_ite_cont, Ss_ite_brk, Ss_ite_last, gt_0, gt_S, wAdd_int, wSub_int, wMul_int, wMul_rep, wMul_str, wDiv_int, wMod_int, wPow_int, wAdd_str, wNeg_int, wAbs_int, wLt_int, wLe_int, wGt_int, wGe_int, wEq_int, wNe_int, wEq_bl, wNe_bl, wEq_str, wNe_str, wLen_tup, wLen_lst, tru_bl, tru_int, ty_int_int, ty_int_bool, ty_int_str, ty_int_tuple, ty_int_list, ty_int_dict, ty_bl_int, ty_bl_bool, ty_bl_str, ty_bl_tuple, ty_bl_list, ty_bl_dict, ty_str_int, ty_str_bool, ty_str_str, ty_str_tuple, ty_str_list, ty_str_dict, ty_tup_int, ty_tup_bool, ty_tup_str, ty_tup_tuple, ty_tup_list, ty_tup_dict, ty_lst_int, ty_lst_bool, ty_lst_str, ty_lst_tuple, ty_lst_list, ty_lst_dict, ty_dct_int, ty_dct_bool, ty_dct_str, ty_dct_tuple, ty_dct_list, ty_dct_dict, ty_non, sub_tup0, sub_tup1, sub_tup2, sub_tup3, sub_tup4, sub_tup5, sub_lst0, sub_lst1, sub_lst2, sub_lst3, sub_lst4, sub_lst5, startA, List.map_cons, List.map_nil, List.length_cons, List.length_nil, List.replicate, List.cons_append, List.nil_append, true_and, and_true, ne_eq, isNon, Bool.not_true, Bool.not_false, Bool.true_or, Bool.or_true, Bool.false_or, reduceIte, Nat.reduceAdd, Nat.zero_add, Int.cast_ofNat_Int, Int.reduceEq, Int.reduceLT, Int.reduceLE, Nat.reduceLeDiff, decide_true, decide_false, not_true_eq_false, not_false_eq_true, Nat.reduceSub, Int.reduceToNat, W_slice, W_blt, W_mth, W_comp, WOe_none, WOe_some, WI_seq, WI_keys, WI_items, WI_range1, WI_range2, WI_enum, WI_zip, WI_rev, WI_revr, WI_rangeD, WT0_none, WT0_some, Ss_asg, Ss_setSub, Ss_aug, WS_asg, WS_aug, WS_for, WS_setC, bT_name, bT_tup, bT_lst, bTs_nil, bTs_name, seq_lst, seq_tup, seq_scr, seq_str, seq_loc, en_tup, en_lst, en_scr, en_loc, lst_lst, lst_scr, lst_loc, exInt, exLoc, exLst, exLst1, exLV_lst, exLV_loc, mOk_app, mOk_pop, mOk_ext, mOk_ins, mOk_ind, mOk_join, mOk_indl, m_append, m_pop, m_extend, m_insert, m_join, b_listL, b_listT, b_listS, b_listK, b_tupL, b_tupT, b_tupK, b_max2, b_min2, b_ord, b_str, sl_lst, sl_loc, sl_scr, sl_tupE, sl_strE, cat_lst, cat_loc, cat_tup, wLen_scr, wLen_loc, wLen_str, wSub_scr, wSub_loc, wSub_str, aug_add, aug_sub, tru_lst, tru_tup, tru_non, ty_scr_list, sg_p0, sg_pl, ss_p0, ss_pl, ob_set0, ob_set1, ob_set2, ob_set3, ob_g0, ob_g1, ob_g2, ob_g3, List.append_assoc, List.length_append, List.nil_append, Nat.add_zero, Nat.add_assoc, Int.reduceNeg, wipeA, orc_run, orc_glob, orc_init, orc_isa, orc_gdct, W_isc, W_isE, W_isEt, orc_xk, m_upper, m_partition, m_split, m_endswith, m_find, mOk_upper, mOk_partition, mOk_split, mOk_endswith, mOk_find, b_intB, W_glob, W_gget, W_fld, W_mcall, W_make, W_make0, W_dsp, Ss_setFld, subO_l, subO_d, subO_k, lenO_l, lenO_d, listO_l, listO_d, putO_l, keyV_int, keyV_str, wIn_str, wNotin_str, mapSome, at_0, at_1, at_2, at_3, at_4, at_5, ix_1_0, ix_2_0, ix_2_1, ix_3_0, ix_3_1, ix_3_2, ix_4_0, ix_4_1, ix_4_2, ix_4_3, va_s0, va_s1, va_s2, va_s3])
local macro_rules | `(tactic| walk_at "if") => `(tactic| (try simp only []); rw [Ss_ite]; simp only [st_set0, st_setS, iteTrue, iteFalse, iteDec, iteNDec, exSome, exBl, W_var, W_int, W_bl, W_non, W_str, W_tup, W_lst, W_bin, W_neg, W_cmp, W_isN, W_notN, W_lrev, W_maxd, W_sortk, wIsb, wNisb, W_chain, W_chain3, W_tst, W_ite, W_call, W_len, W_abs, W_isi, W_sub, WT_val, WT_not, WT_and, WT_or, WA_one, WA_cons, WO_one, WO_cons, WB_val, WB_not, WB_and, WB_or, WBA_one, WBA_cons, WBO_one, WBO_cons, WL_nil, WL_cons, WS_set, WS_ret, WS_retN, WS_pass, WS_brk, WS_cont, WS_drop, WS_ite, WS_raise, WSs_nil, Ss_set, Ss_ret, Ss_retN, Ss_pass, Ss_brk, Ss_cont, Ss_drop, Ss_raise, Ss_ite_ret, Ss_ite_retN, Ss_ite_raise, Ss_ite_cont, Ss_ite_brk, Ss_ite_last, gt_0, gt_S, wAdd_int, wSub_int, wMul_int, wMul_rep, wMul_str, wDiv_int, wMod_int, wPow_int, wAdd_str, wNeg_int, wAbs_int, wLt_int, wLe_int, wGt_int, wGe_int, wEq_int, wNe_int, wEq_bl, wNe_bl, wEq_str, wNe_str, wLen_tup, wLen_lst, tru_bl, tru_int, ty_int_int, ty_int_bool, ty_int_str, ty_int_tuple, ty_int_list, ty_int_dict, ty_bl_int, ty_bl_bool, ty_bl_str, ty_bl_tuple, ty_bl_list, ty_bl_dict, ty_str_int, ty_str_bool, ty_str_str, ty_str_tuple, ty_str_list, ty_str_dict, ty_tup_int, ty_tup_bool, ty_tup_str, ty_tup_tuple, ty_tup_list, ty_tup_dict, ty_lst_int, ty_lst_bool, ty_lst_str, ty_lst_tuple, ty_lst_list, ty_lst_dict, ty_dct_int, ty_dct_bool, ty_dct_str, ty_dct_tuple, ty_dct_list, ty_dct_dict, ty_non, sub_tup0, sub_tup1, sub_tup2, sub_tup3, sub_tup4, sub_tup5, sub_lst0, sub_lst1, sub_lst2, sub_lst3, sub_lst4, sub_lst5, startA, List.map_cons, List.map_nil, List.length_cons, List.length_nil, List.replicate, List.cons_append, List.nil_append, true_and, and_true, ne_eq, isNon, Bool.not_true, Bool.not_false, Bool.true_or, Bool.or_true, Bool.false_or, reduceIte, Nat.reduceAdd, Nat.zero_add, Int.cast_ofNat_Int, Int.reduceEq, Int.reduceLT, Int.reduceLE, Nat.reduceLeDiff, decide_true, decide_false, not_true_eq_false, not_false_eq_true, Nat.reduceSub, Int.reduceToNat, W_slice, W_blt, W_mth, W_comp, WOe_none, WOe_some, WI_seq, WI_keys, WI_items, WI_range1, WI_range2, WI_enum, WI_zip, WI_rev, WI_revr, WI_rangeD, WT0_none, WT0_some, Ss_asg, Ss_setSub, Ss_aug, WS_asg, WS_aug, WS_for, WS_setC, bT_name, bT_tup, bT_lst, bTs_nil, bTs_name, seq_lst, seq_tup, seq_scr, seq_str, seq_loc, en_tup, en_lst, en_scr, en_loc, lst_lst, lst_scr, lst_loc, exInt, exLoc, exLst, exLst1, exLV_lst, exLV_loc, mOk_app, mOk_pop, mOk_ext, mOk_ins, mOk_ind, mOk_join, mOk_indl, m_append, m_pop, m_extend, m_insert, m_join, b_listL, b_listT, b_listS, b_listK, b_tupL, b_tupT, b_tupK, b_max2, b_min2, b_ord, b_str, sl_lst, sl_loc, sl_scr, sl_tupE, sl_strE, cat_lst, cat_loc, cat_tup, wLen_scr, wLen_loc, wLen_str, wSub_scr, wSub_loc, wSub_str, aug_add, aug_sub, tru_lst, tru_tup, tru_non, ty_scr_list, sg_p0, sg_pl, ss_p0, ss_pl, ob_set0, ob_set1, ob_set2, ob_set3, ob_g0, ob_g1, ob_g2, ob_g3, List.append_assoc, List.length_append, List.nil_append, Nat.add_zero, Nat.add_assoc, Int.reduceNeg, wipeA, orc_run, orc_glob, orc_init, orc_isa, orc_gdct, W_isc, W_isE, W_isEt, orc_xk, m_upper, m_partition, m_split, m_endswith, m_find, mOk_upper, mOk_partition, mOk_split, mOk_endswith, mOk_find, b_intB, W_glob, W_gget, W_fld, W_mcall, W_make, W_make0, W_dsp, Ss_setFld, subO_l, subO_d, subO_k, lenO_l, lenO_d, listO_l, listO_d, putO_l, keyV_int, keyV_str, wIn_str, wNotin_str, mapSome, at_0, at_1, at_2, at_3, at_4, at_5, ix_1_0, ix_2_0, ix_2_1, ix_3_0, ix_3_1, ix_3_2, ix_4_0, ix_4_1, ix_4_2, ix_4_3, va_s0, va_s1, va_s2, va_s3])
theorem under_gen (k : Nat) {b : Bool} {M : Mem} {S : Sto} {i : Nat} {τ : Tre} (w : WF τ) {kvs : List (L2.Key × Va)} (lr : Pt M S (.lrows i) (dob b kvs)) {n : Int} (hn : n ∈ τ.nums) (hk : ∀ m ∈ τ.und n, dget kvs (.inl m) = some (.loc (M.L (.lrow i m)))) (hrw : ∀ m ∈ τ.und n, Pt M S (.lrow i m) (.lst ((τ.row m).map Va.int))) (hl : τ.nums.length ≤ 1000) {P : PV} {E : PX} (h : P (.lst ((τ.und n).map Va.int)) S) : call Hd.T (k + 1) "_law_under" [.loc (M.L (.lrows i)), .int n] S P E := by
  refine call_def (d := Hd.f_l_under) rfl rfl ?_
  unfold Hd.f_l_under
  walk_at "am"
  refine seq_cut (call_mono _ _) (fun Γ S' => ∃ N o, S' = S ++ (.lst ((τ.und n).map Va.int) :: N) ∧ Γ = [some (.loc (M.L (.lrows i))), some (.int n), some (.loc S.length), some (.loc (S.length + 1)), o]) ?_ ?_
  · refine wh_rule (call_mono _ _) (fun Γ S' => ∃ told stack rest N o, Pre τ.row stack rest ∧ told ++ rest = τ.und n ∧ (∀ m ∈ stack, m ∈ τ.und n) ∧ S' = S ++ (.lst (told.map Va.int) :: .lst (stack.map Va.int) :: N) ∧ Γ = [some (.loc (M.L (.lrows i))), some (.int n), some (.loc S.length), some (.loc (S.length + 1)), o]) (fun Γ S' => match S'[S.length]? with | some (.lst xs) => 1000 - xs.length | _ => 0) ⟨[], [n], _, [], none, w.und hn, rfl, fun m hm => by rw [List.mem_singleton.mp hm]; exact sub_self 12 n, by simp, rfl⟩ ?_
    rintro Γ S' ⟨told, stack, rest, N, o, hp, hr, hs, rfl, rfl⟩
    walk_at "am"
    have hlen := w.und_len hn
    rw [← hr, List.length_append] at hlen
    rcases List.eq_nil_or_concat stack with e | ⟨xs, m, e⟩
    · subst e
      have er := hp.empty.mp rfl
      subst er
      rw [List.append_nil] at hr
      subst hr
      rw [if_neg (by simp)]
      exact ⟨_, _, rfl, rfl⟩
    · rw [List.concat_eq_append] at e
      subst e
      obtain ⟨zs, ez, hp2⟩ := hp.next
      subst ez
      have hm : m ∈ τ.und n := hs m (by simp)
      rw [if_pos (by simp)]
      rw [List.length_cons] at hlen
      have hsl := hp2.len
      rw [List.length_append, List.length_reverse] at hsl
      refine ⟨_, pop_last, by rw [List.length_map]; omega, ?_⟩
      rw [drop_last]
      refine ⟨_, (lr.app (N := Ob.lst (told.map Va.int ++ [.int m]) :: Ob.lst (xs.map Va.int) :: N)).1, ?_⟩
      rw [subO_b]
      refine ⟨_, rfl, _, hk m hm, _, .inl (.inr ⟨_, rfl, (hrw m hm).app.1⟩), xs.map Va.int, ?_, ?_, ?_, ?_⟩
      · rw [List.append_assoc, sg_pl]; rfl
      · simp; omega
      · refine ⟨told ++ [m], xs ++ (τ.row m).reverse, zs, N ++ [.lst ((τ.row m).map Va.int).reverse], _, hp2, by rw [List.append_assoc]; exact hr, ?_, ?_, rfl⟩
        · intro c hc
          rcases List.mem_append.mp hc with z | z
          · exact hs c (List.mem_append_left _ z)
          · exact (w.und_iff hn).mpr (.step ((w.und_iff hn).mp hm) (List.mem_reverse.mp z))
        · rw [List.append_assoc, ss_pl]
          simp [List.map_append]
      · rw [List.append_assoc, ss_pl, sg_p0]
        simp
        omega
  · rintro Γ S' ⟨N, o, rfl, rfl⟩
    walk_at "am"
    exact fin_lst0 rfl (pls_iff.mpr fun x hx => by obtain ⟨z, _, rfl⟩ := List.mem_map.mp hx; rfl) h
theorem under_ok (k : Nat) {b : Bool} {M : Mem} {S : Sto} {i : Nat} {τ : Tre} (w : WF τ) (l : LawAt b M S i τ) {n : Int} (hn : n ∈ τ.nums) (hl : τ.nums.length ≤ 1000) {P : PV} {E : PX} (h : P (.lst ((τ.und n).map Va.int)) S) : call Hd.T (k + 1) "_law_under" [.loc (M.L (.lrows i)), .int n] S P E :=
  under_gen k w l.rows hn (fun m hm => dget_kd (f := fun n => Va.loc (M.L (.lrow i n))) (w.und_mem hn hm)) (fun m hm => l.row m (w.und_mem hn hm)) hl h
/-! ### one tree at the start -/
def mem2 (M : Mem) (l : Nat) : Mem := ((M.new (.lrows 0) l).new (.lrow 0 0) (l + 1)).new (.lfacts 0) (l + 2)
theorem fr_mem2 {M : Mem} {S : Sto} {N : Sto} : Fr (fun a => a.lof 0 = false) M S (mem2 M S.length) (S ++ N) := by
  have w : ∀ (a b : Tag), b.lof 0 = true → a.lof 0 = false → a ≠ b := fun a b h1 h2 e => by rw [e, h1] at h2; cases h2
  refine Fr.trans ?_ Fr.app
  refine Fr.trans ((Fr.new (.lrows 0) (Nat.le_refl _)).weak fun a h => w a _ rfl h) ?_
  refine Fr.trans ((Fr.new (.lrow 0 0) (Nat.le_add_right _ 1)).weak fun a h => w a _ rfl h) ?_
  exact (Fr.new (.lfacts 0) (Nat.le_add_right _ 2)).weak fun a h => w a _ rfl h
theorem fc0 {cs : List Nat} : Fc (tre0 cs) [(.inl 0, .tup [.non, .str (sx cs)])] := by
  refine ⟨fun n hn => ?_, Nat.le_refl 1⟩
  have en : n = 0 := by simpa [tre0] using hn
  subst en; rfl
theorem start_law {M : Mem} {S N : Sto} {cs : List Nat} : LawAt false (mem2 M S.length) (S ++ (.dct [(.inl 0, .loc (S.length + 1))] :: .lst [] :: .dct [(.inl 0, .tup [.non, .str (sx cs)])] :: N)) 0 (tre0 cs) := by
  refine ⟨⟨?_, by simp [mem2, Mem.new]⟩, fun n hn => ?_, ⟨_, fc0, ⟨?_, by simp [mem2, Mem.new]⟩⟩⟩
  · have : (mem2 M S.length).L (.lrows 0) = S.length := by simp [mem2, Mem.new]
    rw [this, sg_p0]
    show _ = some (Ob.dct [(.inl 0, .loc ((mem2 M S.length).L (.lrow 0 0)))])
    have : (mem2 M S.length).L (.lrow 0 0) = S.length + 1 := by simp [mem2, Mem.new]
    rw [this]; rfl
  · have en : n = 0 := by simpa [tre0] using hn
    subst en
    refine ⟨?_, by simp [mem2, Mem.new]⟩
    have : (mem2 M S.length).L (.lrow 0 0) = S.length + 1 := by simp [mem2, Mem.new]
    rw [this, sg_pl]; rfl
  · have : (mem2 M S.length).L (.lfacts 0) = S.length + 2 := by simp [mem2, Mem.new]
    rw [this, sg_pl]; rfl
/-- one box's facts changed -/
theorem Fc.set {τ τ' : Tre} {kvs : List (L2.Key × Va)} (h : Fc τ kvs) {b : Int} {v : Va} (hb : b ∈ τ.nums) (e : τ'.nums = τ.nums) (ec : τ'.coming = τ.coming) (hv' : v = .tup [hv (τ'.hold b), .str (sx (τ'.nm b))]) (ho : ∀ n, n ≠ b → τ'.hold n = τ.hold n ∧ τ'.nm n = τ.nm n) : Fc τ' (dput kvs (.inl b) v) := by
  refine ⟨fun n hn => ?_, ?_⟩
  · rw [dget_put]
    by_cases z : n = b
    · subst z; rw [if_pos rfl, hv']
    · rw [if_neg (fun y => z (Sum.inl.inj y)), (ho n z).1, (ho n z).2]
      exact h.get n (by rw [← e]; exact hn)
  · rw [ec]
    have : (dput kvs (.inl b) v).length = kvs.length := by
      have := h.get b hb
      unfold dput
      rw [if_pos, List.length_map]
      unfold dget at this
      cases hf : kvs.find? (fun kv => decide (kv.1 = .inl b)) with
      | none => rw [hf] at this; cases this
      | some u => exact List.any_eq_true.mpr ⟨u, List.mem_of_find?_eq_some hf, by have := List.find?_some hf; simpa using this⟩
    rw [this]; exact h.len
theorem tree_not_lof {a : Tag} {i j : Nat} (h : a.of i = true) : a.lof j = false := by
  cases a <;> first | rfl | cases h
theorem lof_not_tree {a : Tag} {i j : Nat} (h : a.lof i = true) : a.of j = false := by
  cases a <;> first | rfl | cases h
/-- the root stands first -/
def Rt (τ : Tre) : Prop := ∃ r, τ.nums = 0 :: r
theorem Rt.put {τ : Tre} {h : Int} {p : Nat} {cs : List Nat} (r : Rt τ) : Rt (τ.put h p cs) := by
  obtain ⟨r, e⟩ := r
  exact ⟨r ++ [τ.coming], by show τ.nums ++ _ = _; rw [e]; rfl⟩
theorem Rt.cut {τ : Tre} {b h : Int} (w : WF τ) (hb : b ∈ τ.nums) (h0 : b ≠ 0) (r : Rt τ) : Rt (τ.cut b h) := by
  obtain ⟨r, e⟩ := r
  refine ⟨r.filter fun n => decide (n ∉ τ.und b), ?_⟩
  show τ.nums.filter _ = _
  rw [e, List.filter_cons, if_pos (decide_eq_true (w.und0 hb h0))]
/-- one of those behind the root, as the laws draw it -/
theorem Rt.pick {τ : Tre} (w : WF τ) (r : Rt τ) (h2 : 2 ≤ τ.nums.length) (d : Int) : ∃ b, L2.atI (τ.nums.map Va.int) (1 + d.fmod ((τ.nums.length : Int) - 1)) = some (.int b) ∧ b ∈ τ.nums ∧ b ≠ 0 := by
  obtain ⟨r, e⟩ := r
  have hl : τ.nums.length = r.length + 1 := by rw [e]; rfl
  obtain ⟨h1, h2'⟩ := fm d ((τ.nums.length : Int) - 1) (by omega)
  obtain ⟨j, hj⟩ := Int.eq_ofNat_of_zero_le h1
  have hj' : j < r.length := by omega
  have hm : r[j] ∈ τ.nums := by rw [e]; exact List.mem_cons_of_mem _ (List.getElem_mem hj')
  refine ⟨r[j], ?_, hm, fun z => ?_⟩
  · rw [hj, show (1 : Int) + (j : Nat) = ((j + 1 : Nat) : Int) by omega]
    refine L2.atI_nat ?_
    rw [e]; simp [hj']
  · have nd := w.nd
    rw [e] at nd
    exact (List.nodup_cons.mp nd).1 (z ▸ List.getElem_mem hj')
end TR
end

section
set_option linter.all false
set_option maxRecDepth 100000
set_option maxHeartbeats 4000000
/-! Trees: single changes. -/
open PySem
namespace TR
open PySem AM NM
local macro_rules | `(tactic| walk_at "am") => `(tactic| try simp only [st_set0, st_setS, iteTrue, iteFalse, iteDec, iteNDec, exSome, exBl, W_var, W_int, W_bl, W_non, W_str, W_tup, W_lst, W_bin, W_neg, W_cmp, W_isN, W_notN, W_lrev, W_maxd, W_sortk, wIsb, wNisb, W_chain, W_chain3, W_tst, W_ite, W_call, W_len, W_abs, W_isi, W_sub, WT_val, WT_not, WT_and, WT_or, WA_one, WA_cons, WO_one, WO_cons, WB_val, WB_not, WB_and, WB_or, WBA_one, WBA_cons, WBO_one, WBO_cons, WL_nil, WL_cons, WS_set, WS_ret, WS_retN, WS_pass, WS_brk, WS_cont, WS_drop, WS_ite, WS_raise, WSs_nil, Ss_set, Ss_ret, Ss_retN, Ss_pass, Ss_brk, Ss_cont, Ss_drop, Ss_raise, Ss_ite_ret, Ss_ite_retN, Ss_ite_raise, Ss_ite_cont, Ss_ite_brk, Ss_ite_last, gt_0, gt_S, wAdd_int, wSub_int, wMul_int, wMul_rep, wMul_str, wDiv_int, wMod_int, wPow_int, wAdd_str, wNeg_int, wAbs_int, wLt_int, wLe_int, wGt_int, wGe_int, wEq_int, wNe_int, wEq_bl, wNe_bl, wEq_str, wNe_str, wLen_tup, wLen_lst, tru_bl, tru_int, ty_int_int, ty_int_bool, ty_int_str, ty_int_tuple, ty_int_list, ty_int_dict, ty_bl_int, ty_bl_bool, ty_bl_str, ty_bl_tuple, ty_bl_list, ty_bl_dict, ty_str_int, ty_str_bool, ty_str_str, ty_str_tuple, ty_str_list, ty_str_dict, ty_tup_int, ty_tup_bool, ty_tup_str, ty_tup_tuple, ty_tup_list, ty_tup_dict, ty_lst_int, ty_lst_bool, ty_lst_str, ty_lst_tuple, ty_lst_list, ty_lst_dict, ty_dct_int, ty_dct_bool, ty_dct_str, ty_dct_tuple, ty_dct_list, ty_dct_dict, ty_non, sub_tup0, sub_tup1, sub_tup2, sub_tup3, sub_tup4, sub_tup5, sub_lst0, sub_lst1, sub_lst2, sub_lst3, sub_lst4, sub_lst5, startA, List.map_cons, List.map_nil, List.length_cons, List.length_nil, List.replicate, List.cons_append, List.nil_append, true_and, and_true, ne_eq, isNon, Bool.not_true, Bool.not_false, Bool.true_or, Bool.or_true, Bool.false_or, reduceIte, Nat.reduceAdd, Nat.zero_add, Int.cast_ofNat_Int, Int.reduceEq, Int.reduceLT, Int.reduceLE, Nat.reduceLeDiff, decide_true, decide_false, not_true_eq_false, not_false_eq_true, Nat.reduceSub, Int.reduceToNat, W_slice, W_blt, W_mth, W_comp, WOe_none, WOe_some, WI_seq, WI_keys, WI_items, WI_range1, WI_range2, WI_enum, WI_zip, WI_rev, WI_revr, WI_rangeD, WT0_none, WT0_some, Ss_asg, Ss_setSub, Ss_aug, WS_asg, WS_aug, WS_for, WS_setC, bT_name, bT_tup, bT_lst, bTs_nil, bTs_name, seq_lst, seq_tup, seq_scr, seq_str, seq_loc, en_tup, en_lst, en_scr, en_loc, lst_lst, lst_scr, lst_loc, exInt, exLoc, exLst, exLst1, exLV_lst, exLV_loc, mOk_app, mOk_pop, mOk_ext, mOk_ins, mOk_ind, mOk_join, mOk_indl, m_append, m_pop, m_extend, m_insert, m_join, b_listL, b_listT, b_listS, b_listK, b_tupL, b_tupT, b_tupK, b_max2, b_min2, b_ord, b_str, sl_lst, sl_loc, sl_scr, sl_tupE, sl_strE, cat_lst, cat_loc, cat_tup, wLen_scr, wLen_loc, wLen_str, wSub_scr, wSub_loc, wSub_str, aug_add, aug_sub, tru_lst, tru_tup, tru_non, ty_scr_list, sg_p0, sg_pl, ss_p0, ss_pl, ob_set0, ob_set1, ob_set2, ob_set3, ob_g0, ob_g1, ob_g2, ob_g3, List.append_assoc, List.length_append, List.nil_append, Nat.add_zero, Nat.add_assoc, Int.reduceNeg, wipeA, orc_run, orc_glob, orc_init, orc_isa, orc_gdct, W_isc, W_isE, W_isEt, orc_xk, m_upper, m_partition, m_split, m_endswith, m_find, mOk_upper, mOk_partition, mOk_split, mOk_endswith, mOk_find, b_intB, W_glob, W_gget, W_fld, W_mcall, W_make, W_make0, W_dsp, Ss_setFld, subO_l, subO_d, subO_k, lenO_l, lenO_d, listO_l, listO_d, putO_l, keyV_int, keyV_str, wIn_str, wNotin_str, mapSome, at_0, at_1, at_2, at_3, at_4, at_5, ix_1_0, ix_2_0, ix_2_1, ix_3_0, ix_3_1, ix_3_2, ix_4_0, ix_4_1, ix_4_2, ix_4_3, va_s0, va_s1, va_s2, va_s3])
local macro_rules | `(tactic| walk_at "if") => `(tactic| (try simp only []); rw [Ss_ite]; simp only [st_set0, st_setS, iteTrue, iteFalse, iteDec, iteNDec, exSome, exBl, W_var, W_int, W_bl, W_non, W_str, W_tup, W_lst, W_bin, W_neg, W_cmp, W_isN, W_notN, W_lrev, W_maxd, W_sortk, wIsb, wNisb, W_chain, W_chain3, W_tst, W_ite, W_call, W_len, W_abs, W_isi, W_sub, WT_val, WT_not, WT_and, WT_or, WA_one, WA_cons, WO_one, WO_cons, WB_val, WB_not, WB_and, WB_or, WBA_one, WBA_cons, WBO_one, WBO_cons, WL_nil, WL_cons, WS_set, WS_ret, WS_retN, WS_pass, WS_brk, WS_cont, WS_drop, WS_ite, WS_raise, WSs_nil, Ss_set, Ss_ret, Ss_retN, Ss_pass, Ss_brk, Ss_cont, Ss_drop, Ss_raise, Ss_ite_ret, Ss_ite_retN, Ss_ite_raise, Ss_ite_cont, Ss_ite_brk, Ss_ite_last, gt_0, gt_S, wAdd_int, wSub_int, wMul_int, wMul_rep, wMul_str, wDiv_int, wMod_int, wPow_int, wAdd_str, wNeg_int, wAbs_int, wLt_int, wLe_int, wGt_int, wGe_int, wEq_int, wNe_int, wEq_bl, wNe_bl, wEq_str, wNe_str, wLen_tup, wLen_lst, tru_bl, tru_int, ty_int_int, ty_int_bool, ty_int_str, ty_int_tuple, ty_int_list, ty_int_dict, ty_bl_int, ty_bl_bool, ty_bl_str, ty_bl_tuple, ty_bl_list, ty_bl_dict, ty_str_int, ty_str_bool, ty_str_str, ty_str_tuple, ty_str_list, ty_str_dict, ty_tup_int, ty_tup_bool, ty_tup_str, ty_tup_tuple, ty_tup_list, ty_tup_dict, ty_lst_int, ty_lst_bool, ty_lst_str, ty_lst_tuple, ty_lst_list, ty_lst_dict, ty_dct_int, ty_dct_bool, ty_dct_str, ty_dct_tuple, ty_dct_list, ty_dct_dict, ty_non, sub_tup0, sub_tup1, sub_tup2, sub_tup3, sub_tup4, sub_tup5, sub_lst0, sub_lst1, sub_lst2, sub_lst3, sub_lst4, sub_lst5, startA, List.map_cons, List.map_nil, List.length_cons, List.length_nil, List.replicate, List.cons_append, List.nil_append, true_and, and_true, ne_eq, isNon, Bool.not_true, Bool.not_false, Bool.true_or, Bool.or_true, Bool.false_or, reduceIte, Nat.reduceAdd, Nat.zero_add, Int.cast_ofNat_Int, Int.reduceEq, Int.reduceLT, Int.reduceLE, Nat.reduceLeDiff, decide_true, decide_false, not_true_eq_false, not_false_eq_true, Nat.reduceSub, Int.reduceToNat, W_slice, W_blt, W_mth, W_comp, WOe_none, WOe_some, WI_seq, WI_keys, WI_items, WI_range1, WI_range2, WI_enum, WI_zip, WI_rev, WI_revr, WI_rangeD, WT0_none, WT0_some, Ss_asg, Ss_setSub, Ss_aug, WS_asg, WS_aug, WS_for, WS_setC, bT_name, bT_tup, bT_lst, bTs_nil, bTs_name, seq_lst, seq_tup, seq_scr, seq_str, seq_loc, en_tup, en_lst, en_scr, en_loc, lst_lst, lst_scr, lst_loc, exInt, exLoc, exLst, exLst1, exLV_lst, exLV_loc, mOk_app, mOk_pop, mOk_ext, mOk_ins, mOk_ind, mOk_join, mOk_indl, m_append, m_pop, m_extend, m_insert, m_join, b_listL, b_listT, b_listS, b_listK, b_tupL, b_tupT, b_tupK, b_max2, b_min2, b_ord, b_str, sl_lst, sl_loc, sl_scr, sl_tupE, sl_strE, cat_lst, cat_loc, cat_tup, wLen_scr, wLen_loc, wLen_str, wSub_scr, wSub_loc, wSub_str, aug_add, aug_sub, tru_lst, tru_tup, tru_non, ty_scr_list, sg_p0, sg_pl, ss_p0, ss_pl, ob_set0, ob_set1, ob_set2, ob_set3, ob_g0, ob_g1, ob_g2, ob_g3, List.append_assoc, List.length_append, List.nil_append, Nat.add_zero, Nat.add_assoc, Int.reduceNeg, wipeA, orc_run, orc_glob, orc_init, orc_isa, orc_gdct, W_isc, W_isE, W_isEt, orc_xk, m_upper, m_partition, m_split, m_endswith, m_find, mOk_upper, mOk_partition, mOk_split, mOk_endswith, mOk_find, b_intB, W_glob, W_gget, W_fld, W_mcall, W_make, W_make0, W_dsp, Ss_setFld, subO_l, subO_d, subO_k, lenO_l, lenO_d, listO_l, listO_d, putO_l, keyV_int, keyV_str, wIn_str, wNotin_str, mapSome, at_0, at_1, at_2, at_3, at_4, at_5, ix_1_0, ix_2_0, ix_2_1, ix_3_0, ix_3_1, ix_3_2, ix_4_0, ix_4_1, ix_4_2, ix_4_3, va_s0, va_s1, va_s2, va_s3])
section
variable {D : Tag → Prop} {M M' : Mem} {S S' : Sto} {a c : Tag} {o u : Ob} {l k : Nat}
theorem Pt.newer {S0 : Sto} {o0 : Ob} (h0 : Pt M S0 a o0) (hl : S0.length ≤ l) (h : Pt M S a o) (ne : a ≠ c) : (M.new c l).L a = M.L a ∧ Pt (M.new c l) S a o := by
  have e : (M.new c l).L a = M.L a := new_ne ne
  have := h0.lt
  refine ⟨e, by rw [e]; exact h.1, ?_⟩
  rw [e]
  show (if M.L a = l then some c else M.own (M.L a)) = _
  rw [if_neg (by omega)]; exact h.2
theorem Fr.thenNew (f : Fr D M S M S') (hl : S.length ≤ l) : Fr (fun a => D a ∧ a ≠ c) M S (M.new c l) S' := fun a o d h => by
  obtain ⟨_, h1⟩ := f a o d.1 h
  exact h.newer hl h1 d.2
theorem Fr.setr (h : ∀ a, D a → M.own k ≠ some a) : Fr D M S M (S.set k u) := fun a o d q => by
  refine ⟨rfl, ?_, q.2⟩
  rw [List.getElem?_set_ne (fun e => h a d (by rw [e]; exact q.2))]; exact q.1
end
section
variable {M : Mem} {S : Sto} {i : Nat} {τ : Tre}
/-- another row, at the same place -/
theorem TreeAt.setrow (t : TreeAt M S i τ) {n : Int} (hn : n ∈ τ.nums) (xs : List Int) : TreeAt M (S.set (M.L (.row i n)) (.lst (xs.map Va.int))) i { τ with row := up τ.row n xs } := by
  have B := t.box n hn
  have f := Fr.set B.row (.lst (xs.map Va.int))
  refine ⟨(f _ _ (by simp) t.tree).2, (f _ _ (by simp) t.stand).2, fun m hm => ?_⟩
  by_cases e : m = n
  · subst e
    refine ⟨(f _ _ (by simp) B.bx).2, ?_, (f _ _ (by simp) B.marks).2, (f _ _ (by simp) B.words).2⟩
    show Pt _ _ _ (.lst ((up τ.row m xs m).map Va.int))
    rw [up_eq]; exact B.row.here
  · exact (t.box m hm).fr f (by simp) (by simp [e]) (by simp) (by simp) rfl rfl rfl (up_ne e) rfl rfl rfl
/-- a box's own things changed -/
theorem TreeAt.setbx (t : TreeAt M S i τ) {n : Int} (hn : n ∈ τ.nums) {τ' : Tre} (e1 : τ'.nums = τ.nums) (e2 : τ'.coming = τ.coming) (e3 : τ'.row = τ.row) (e4 : τ'.marks = τ.marks) (e5 : τ'.words = τ.words)
    (e : ∀ m, m ≠ n → τ'.nm m = τ.nm m ∧ τ'.hold m = τ.hold m ∧ τ'.deep m = τ.deep m ∧ τ'.own m = τ.own m) : TreeAt M (S.set (M.L (.bx i n)) (.ins "Box" (boxF M i τ' n))) i τ' := by
  have B := t.box n hn
  have f := Fr.set B.bx (.ins "Box" (boxF M i τ' n))
  refine ⟨by rw [e2]; exact (f _ _ (by simp) t.tree).2, by rw [e1]; exact (f _ _ (by simp) t.stand).2, fun m hm => ?_⟩
  rw [e1] at hm
  by_cases c : m = n
  · subst c
    exact ⟨B.bx.here, by rw [e3]; exact (f _ _ (by simp) B.row).2, by rw [e4]; exact (f _ _ (by simp) B.marks).2, by rw [e5]; exact (f _ _ (by simp) B.words).2⟩
  · obtain ⟨q1, q2, q3, q4⟩ := e m c
    exact (t.box m hm).fr f (by simp [c]) (by simp) (by simp) (by simp) q1 q2 q3 (by rw [e3]) (by rw [e4]) (by rw [e5]) q4
/-- a row at another place -/
theorem TreeAt.newrow {S0 : Sto} {τ0 : Tre} (t0 : TreeAt M S0 i τ0) {l : Nat} (hl : S0.length ≤ l) (t : TreeAt M S i τ) (en : τ.nums = τ0.nums) {n : Int} (hn : n ∈ τ.nums) {xs : List Int} (hx : S[l]? = some (.lst (xs.map Va.int))) :
    TreeAt (M.new (.row i n) l) (S.set (M.L (.bx i n)) (.ins "Box" (boxF (M.new (.row i n) l) i { τ with row := up τ.row n xs } n))) i { τ with row := up τ.row n xs } := by
  have B := t.box n hn
  have B0 := t0.box n (by rw [← en]; exact hn)
  have f := Fr.set B.bx (.ins "Box" (boxF (M.new (.row i n) l) i { τ with row := up τ.row n xs } n))
  have nw : ∀ {a : Tag} {o0 o : Ob}, Pt M S0 a o0 → a ≠ .row i n → a ≠ .bx i n → Pt M S a o → (M.new (.row i n) l).L a = M.L a ∧ Pt (M.new (.row i n) l) (S.set (M.L (.bx i n)) (.ins "Box" (boxF (M.new (.row i n) l) i { τ with row := up τ.row n xs } n))) a o := fun h0 h1 h2 h3 => h0.newer hl (f _ _ h2 h3).2 h1
  have hlt := B0.bx.lt
  refine ⟨?_, ?_, fun m hm => ?_⟩
  · rw [(nw t0.stand (by simp) (by simp) t.stand).1]
    exact (nw t0.tree (by simp) (by simp) t.tree).2
  · have e : (kd τ.nums fun m => Va.loc ((M.new (.row i n) l).L (.bx i m))) = kd τ.nums fun m => .loc (M.L (.bx i m)) := kd_congr fun m _ => by rw [new_ne (by simp)]
    show Pt _ _ _ (.dct (kd τ.nums _))
    rw [e]
    exact (nw t0.stand (by simp) (by simp) t.stand).2
  · have C0 := t0.box m (by rw [← en]; exact hm)
    have C := t.box m hm
    by_cases e : m = n
    · subst e
      obtain ⟨l3, p3⟩ := nw C0.marks (by simp) (by simp) C.marks
      obtain ⟨l4, p4⟩ := nw C0.words (by simp) (by simp) C.words
      refine ⟨?_, ?_, p3, p4⟩
      · obtain ⟨l1, p1⟩ := B0.bx.newer hl B.bx.here (c := .row i m) (by simp) (o := .ins "Box" (boxF (M.new (.row i m) l) i { τ with row := up τ.row m xs } m))
        exact p1
      · show Pt _ _ _ (.lst ((up τ.row m xs m).map Va.int))
        rw [up_eq]
        refine .mk new_eq ?_ (by simp [Mem.new])
        rw [List.getElem?_set_ne (by omega)]; exact hx
    · obtain ⟨l1, p1⟩ := nw C0.bx (by simp) (by simp [e]) C.bx
      obtain ⟨l2, p2⟩ := nw C0.row (by simp [e]) (by simp) C.row
      obtain ⟨l3, p3⟩ := nw C0.marks (by simp) (by simp) C.marks
      obtain ⟨l4, p4⟩ := nw C0.words (by simp) (by simp) C.words
      refine ⟨?_, ?_, p3, p4⟩
      · have : boxF (M.new (.row i n) l) i { τ with row := up τ.row n xs } m = boxF M i τ m := by
          unfold boxF
          rw [l2, l3, l4]
        rw [this]; exact p1
      · show Pt _ _ _ (.lst ((up τ.row n xs m).map Va.int))
        rw [up_ne e]; exact p2
end
end TR
end

section
set_option linter.all false
set_option maxRecDepth 100000
set_option maxHeartbeats 4000000
/-! Trees: a box moved. -/
open PySem
namespace AM
/-! ### lists of ints as data -/
def ivs (ns : List Int) : List Va := ns.map Va.int
theorem ivs_dat : ∀ ns : List Int, dats (ns.map Va.int) = true
  | [] => rfl
  | n :: r => by simp [dats, dat, ivs_dat r]
theorem ivs_dep : ∀ ns : List Int, deps (ns.map Va.int) = 0
  | [] => rfl
  | n :: r => by simp [deps, dep, ivs_dep r]
theorem eqv_ivs : ∀ xs ys : List Int, PyData.eqvAll (pds (xs.map Va.int)) (pds (ys.map Va.int)) = decide (xs = ys)
  | [], [] => by simp [pds, PyData.eqvAll]
  | [], y :: ys => by simp [pds, PyData.eqvAll]
  | x :: xs, [] => by simp [pds, PyData.eqvAll]
  | x :: xs, y :: ys => by
    rw [List.map_cons, List.map_cons]
    simp only [pds, pd, PyData.eqvAll, PyData.eqv, eqv_ivs xs ys]
    rw [Bool.eq_iff_iff]; simp
theorem any_ivs (xs : List Int) (x : Int) : ((pds (xs.map Va.int)).any fun z => PyData.eqv z (.int x)) = decide (x ∈ xs) := by
  induction xs with
  | nil => simp [pds]
  | cons y r ih =>
    rw [List.map_cons]
    simp only [pds, pd, List.any_cons, ih, PyData.eqv]
    rw [Bool.eq_iff_iff]; simp
    constructor
    · rintro (e | e)
      · exact .inl e.symm
      · exact .inr e
    · rintro (e | e)
      · exact .inl e.symm
      · exact .inr e
theorem fm_map (f : Int → Int) (ns : List Int) : (ns.map Va.int).filterMap (fun x => match x with | .int n => some (.int (f n)) | _ => none) = (ns.map f).map Va.int := by
  induction ns with
  | nil => rfl
  | cons n r ih =>
    rw [List.map_cons, List.map_cons, List.map_cons, ← ih]
    rfl
theorem gapp {S N : Sto} {k : Nat} {o : Ob} (h : S[k]? = some o) : (S ++ N)[k]? = some o := by
  rw [List.getElem?_append_left (List.getElem?_eq_some_iff.mp h).1]; exact h
section
variable {C : Orc} {Γ : Env} {S : Sto} {D : AEnds}
theorem WS_augFld {o f op e} : WS C (.augFld o f op e) D Γ S = (op = .add ∧ W C o Γ S (fun x S1 => ∃ k, x = .loc k ∧ ∃ ob, S1[k]? = some ob ∧ ∃ u, fldO C f ob = some u ∧ W C e Γ S1 (fun y S2 => ∃ n : Int, u = .int n ∧ ∃ m : Int, y = .int m ∧ ∃ ob2, S2[k]? = some ob2 ∧ clsOf ob2 = clsOf ob ∧ ∃ ob', putFO C f (.int (n + m)) ob2 = some ob' ∧ D.nx Γ (S2.set k ob')) (fun x S1 => D.ex x Γ S1)) (fun x S1 => D.ex x Γ S1)) := rfl
end
section
variable {S : Sto} {u v : Va} {xs ys : List Int} {x : Int} {P : PV}
theorem eq_ints (hu : LV S u (xs.map Va.int)) (hv : LV S v (ys.map Va.int)) (h : P (.bl (decide (xs = ys))) S) : wCmp .eq u v S P := by
  simp only [wCmp]
  refine .inr ⟨_, _, hu.dv (ivs_dat _), hv.dv (ivs_dat _), pd_shaped (v := .lst (xs.map Va.int)) (ivs_dat _) (by simp [dep, ivs_dep]), pd_shaped (v := .lst (ys.map Va.int)) (ivs_dat _) (by simp [dep, ivs_dep]), ?_⟩
  simp only [pd, PyData.eqv, eqv_ivs]
  exact h
theorem ne_ints (hu : LV S u (xs.map Va.int)) (hv : LV S v (ys.map Va.int)) (h : P (.bl (!decide (xs = ys))) S) : wCmp .ne u v S P := by
  simp only [wCmp]
  refine .inr ⟨_, _, hu.dv (ivs_dat _), hv.dv (ivs_dat _), pd_shaped (v := .lst (xs.map Va.int)) (ivs_dat _) (by simp [dep, ivs_dep]), pd_shaped (v := .lst (ys.map Va.int)) (ivs_dat _) (by simp [dep, ivs_dep]), ?_⟩
  simp only [pd, PyData.eqv, eqv_ivs]
  exact h
theorem in_ints (hv : LV S v (ys.map Va.int)) (h : P (.bl (decide (x ∈ ys))) S) : wCmp .isin (.int x) v S P := by
  have h1 : SeqAt.shaped (pd (.lst (ys.map Va.int))) = true := pd_shaped (v := .lst (ys.map Va.int)) (ivs_dat _) (by simp [dep, ivs_dep])
  have h2 : SeqAt.shaped (pd (.int x)) = true := pd_shaped (v := .int x) rfl (by simp [dep])
  rcases hv with rfl | ⟨k, rfl, hk⟩
  · exact ⟨_, _, dv_pd (v := .int x) rfl, LV.dv (.inl rfl) (ivs_dat _), h2, h1, by rw [show pd (.int x) = .int x from rfl, any_ivs]; exact h⟩
  · exact ⟨_, hk, _, _, dv_pd (v := .int x) rfl, LV.dv (.inr ⟨_, rfl, hk⟩) (ivs_dat _), h2, h1, by rw [if_neg (by decide), show pd (.int x) = .int x from rfl, any_ivs]; exact h⟩
theorem notin_ints (hv : LV S v (ys.map Va.int)) (h : P (.bl (!decide (x ∈ ys))) S) : wCmp .notin (.int x) v S P := by
  have h1 : SeqAt.shaped (pd (.lst (ys.map Va.int))) = true := pd_shaped (v := .lst (ys.map Va.int)) (ivs_dat _) (by simp [dep, ivs_dep])
  have h2 : SeqAt.shaped (pd (.int x)) = true := pd_shaped (v := .int x) rfl (by simp [dep])
  rcases hv with rfl | ⟨k, rfl, hk⟩
  · exact ⟨_, _, dv_pd (v := .int x) rfl, LV.dv (.inl rfl) (ivs_dat _), h2, h1, by rw [show pd (.int x) = .int x from rfl, any_ivs]; exact h⟩
  · exact ⟨_, hk, _, _, dv_pd (v := .int x) rfl, LV.dv (.inr ⟨_, rfl, hk⟩) (ivs_dat _), h2, h1, by rw [if_pos rfl, show pd (.int x) = .int x from rfl, any_ivs]; exact h⟩
theorem max_ints (hv : LV S v (ys.map Va.int)) (h0 : ys ≠ []) (h : ∀ m ∈ ys, (∀ y ∈ ys, y ≤ m) → P (.int m) S) : wBlt .max1 [v] S P := ⟨ys, hv, List.length_pos_iff.mpr h0, h⟩
end
end AM
namespace TR
open PySem AM NM
local macro_rules | `(tactic| walk_at "am") => `(tactic| try simp only [m_remove, WS_augFld, st_set0, st_setS, iteTrue, iteFalse, iteDec, iteNDec, exSome, exBl, W_var, W_int, W_bl, W_non, W_str, W_tup, W_lst, W_bin, W_neg, W_cmp, W_isN, W_notN, W_lrev, W_maxd, W_sortk, wIsb, wNisb, W_chain, W_chain3, W_tst, W_ite, W_call, W_len, W_abs, W_isi, W_sub, WT_val, WT_not, WT_and, WT_or, WA_one, WA_cons, WO_one, WO_cons, WB_val, WB_not, WB_and, WB_or, WBA_one, WBA_cons, WBO_one, WBO_cons, WL_nil, WL_cons, WS_set, WS_ret, WS_retN, WS_pass, WS_brk, WS_cont, WS_drop, WS_ite, WS_raise, WSs_nil, Ss_set, Ss_ret, Ss_retN, Ss_pass, Ss_brk, Ss_cont, Ss_drop, Ss_raise, Ss_ite_ret, Ss_ite_retN, Ss_ite_raise, Ss_ite_cont, Ss_ite_brk, Ss_ite_last, gt_0, gt_S, wAdd_int, wSub_int, wMul_int, wMul_rep, wMul_str, wDiv_int, wMod_int, wPow_int, wAdd_str, wNeg_int, wAbs_int, wLt_int, wLe_int, wGt_int, wGe_int, wEq_int, wNe_int, wEq_bl, wNe_bl, wEq_str, wNe_str, wLen_tup, wLen_lst, tru_bl, tru_int, ty_int_int, ty_int_bool, ty_int_str, ty_int_tuple, ty_int_list, ty_int_dict, ty_bl_int, ty_bl_bool, ty_bl_str, ty_bl_tuple, ty_bl_list, ty_bl_dict, ty_str_int, ty_str_bool, ty_str_str, ty_str_tuple, ty_str_list, ty_str_dict, ty_tup_int, ty_tup_bool, ty_tup_str, ty_tup_tuple, ty_tup_list, ty_tup_dict, ty_lst_int, ty_lst_bool, ty_lst_str, ty_lst_tuple, ty_lst_list, ty_lst_dict, ty_dct_int, ty_dct_bool, ty_dct_str, ty_dct_tuple, ty_dct_list, ty_dct_dict, ty_non, sub_tup0, sub_tup1, sub_tup2, sub_tup3, sub_tup4, sub_tup5, sub_lst0, sub_lst1, sub_lst2, sub_lst3, sub_lst4, sub_lst5, startA, List.map_cons, List.map_nil, List.length_cons, List.length_nil, List.replicate, List.cons_append, List.nil_append, true_and, and_true, ne_eq, isNon, Bool.not_true, Bool.not_false, Bool.true_or, Bool.or_true, Bool.false_or, reduceIte, Nat.reduceAdd, Nat.zero_add, Int.cast_ofNat_Int, Int.reduceEq, Int.reduceLT, Int.reduceLE, Nat.reduceLeDiff, decide_true, decide_false, not_true_eq_false, not_false_eq_true, Nat.reduceSub, Int.reduceToNat, W_slice, W_blt, W_mth, W_comp, WOe_none, WOe_some, WI_seq, WI_keys, WI_items, WI_range1, WI_range2, WI_enum, WI_zip, WI_rev, WI_revr, WI_rangeD, WT0_none, WT0_some, Ss_asg, Ss_setSub, Ss_aug, WS_asg, WS_aug, WS_for, WS_setC, bT_name, bT_tup, bT_lst, bTs_nil, bTs_name, seq_lst, seq_tup, seq_scr, seq_str, seq_loc, en_tup, en_lst, en_scr, en_loc, lst_lst, lst_scr, lst_loc, exInt, exLoc, exLst, exLst1, exLV_lst, exLV_loc, mOk_app, mOk_pop, mOk_ext, mOk_ins, mOk_ind, mOk_join, mOk_indl, m_append, m_pop, m_extend, m_insert, m_join, b_listL, b_listT, b_listS, b_listK, b_tupL, b_tupT, b_tupK, b_max2, b_min2, b_ord, b_str, sl_lst, sl_loc, sl_scr, sl_tupE, sl_strE, cat_lst, cat_loc, cat_tup, wLen_scr, wLen_loc, wLen_str, wSub_scr, wSub_loc, wSub_str, aug_add, aug_sub, tru_lst, tru_tup, tru_non, ty_scr_list, sg_p0, sg_pl, ss_p0, ss_pl, ob_set0, ob_set1, ob_set2, ob_set3, ob_g0, ob_g1, ob_g2, ob_g3, List.append_assoc, List.length_append, List.nil_append, Nat.add_zero, Nat.add_assoc, Int.reduceNeg, wipeA, orc_run, orc_glob, orc_init, orc_isa, orc_gdct, W_isc, W_isE, W_isEt, orc_xk, m_upper, m_partition, m_split, m_endswith, m_find, mOk_upper, mOk_partition, mOk_split, mOk_endswith, mOk_find, b_intB, W_glob, W_gget, W_fld, W_mcall, W_make, W_make0, W_dsp, Ss_setFld, subO_l, subO_d, subO_k, lenO_l, lenO_d, listO_l, listO_d, putO_l, keyV_int, keyV_str, wIn_str, wNotin_str, mapSome, at_0, at_1, at_2, at_3, at_4, at_5, ix_1_0, ix_2_0, ix_2_1, ix_3_0, ix_3_1, ix_3_2, ix_4_0, ix_4_1, ix_4_2, ix_4_3, va_s0, va_s1, va_s2, va_s3])
local macro_rules | `(tactic| walk_at "if") => `(tactic| (try simp only []); rw [Ss_ite]; simp only [m_remove, WS_augFld, st_set0, st_setS, iteTrue, iteFalse, iteDec, iteNDec, exSome, exBl, W_var, W_int, W_bl, W_non, W_str, W_tup, W_lst, W_bin, W_neg, W_cmp, W_isN, W_notN, W_lrev, W_maxd, W_sortk, wIsb, wNisb, W_chain, W_chain3, W_tst, W_ite, W_call, W_len, W_abs, W_isi, W_sub, WT_val, WT_not, WT_and, WT_or, WA_one, WA_cons, WO_one, WO_cons, WB_val, WB_not, WB_and, WB_or, WBA_one, WBA_cons, WBO_one, WBO_cons, WL_nil, WL_cons, WS_set, WS_ret, WS_retN, WS_pass, WS_brk, WS_cont, WS_drop, WS_ite, WS_raise, WSs_nil, Ss_set, Ss_ret, Ss_retN, Ss_pass, Ss_brk, Ss_cont, Ss_drop, Ss_raise, Ss_ite_ret, Ss_ite_retN, Ss_ite_raise, Ss_ite_cont, Ss_ite_brk, Ss_ite_last, gt_0, gt_S, wAdd_int, wSub_int, wMul_int, wMul_rep, wMul_str, wDiv_int, wMod_int, wPow_int, wAdd_str, wNeg_int, wAbs_int, wLt_int, wLe_int, wGt_int, wGe_int, wEq_int, wNe_int, wEq_bl, wNe_bl, wEq_str, wNe_str, wLen_tup, wLen_lst, tru_bl, tru_int, ty_int_int, ty_int_bool, ty_int_str, ty_int_tuple, ty_int_list, ty_int_dict, ty_bl_int, ty_bl_bool, ty_bl_str, ty_bl_tuple, ty_bl_list, ty_bl_dict, ty_str_int, ty_str_bool, ty_str_str, ty_str_tuple, ty_str_list, ty_str_dict, ty_tup_int, ty_tup_bool, ty_tup_str, ty_tup_tuple, ty_tup_list, ty_tup_dict, ty_lst_int, ty_lst_bool, ty_lst_str, ty_lst_tuple, ty_lst_list, ty_lst_dict, ty_dct_int, ty_dct_bool, ty_dct_str, ty_dct_tuple, ty_dct_list, ty_dct_dict, ty_non, sub_tup0, sub_tup1, sub_tup2, sub_tup3, sub_tup4, sub_tup5, sub_lst0, sub_lst1, sub_lst2, sub_lst3, sub_lst4, sub_lst5, startA, List.map_cons, List.map_nil, List.length_cons, List.length_nil, List.replicate, List.cons_append, List.nil_append, true_and, and_true, ne_eq, isNon, Bool.not_true, Bool.not_false, Bool.true_or, Bool.or_true, Bool.false_or, reduceIte, Nat.reduceAdd, Nat.zero_add, Int.cast_ofNat_Int, Int.reduceEq, Int.reduceLT, Int.reduceLE, Nat.reduceLeDiff, decide_true, decide_false, not_true_eq_false, not_false_eq_true, Nat.reduceSub, Int.reduceToNat, W_slice, W_blt, W_mth, W_comp, WOe_none, WOe_some, WI_seq, WI_keys, WI_items, WI_range1, WI_range2, WI_enum, WI_zip, WI_rev, WI_revr, WI_rangeD, WT0_none, WT0_some, Ss_asg, Ss_setSub, Ss_aug, WS_asg, WS_aug, WS_for, WS_setC, bT_name, bT_tup, bT_lst, bTs_nil, bTs_name, seq_lst, seq_tup, seq_scr, seq_str, seq_loc, en_tup, en_lst, en_scr, en_loc, lst_lst, lst_scr, lst_loc, exInt, exLoc, exLst, exLst1, exLV_lst, exLV_loc, mOk_app, mOk_pop, mOk_ext, mOk_ins, mOk_ind, mOk_join, mOk_indl, m_append, m_pop, m_extend, m_insert, m_join, b_listL, b_listT, b_listS, b_listK, b_tupL, b_tupT, b_tupK, b_max2, b_min2, b_ord, b_str, sl_lst, sl_loc, sl_scr, sl_tupE, sl_strE, cat_lst, cat_loc, cat_tup, wLen_scr, wLen_loc, wLen_str, wSub_scr, wSub_loc, wSub_str, aug_add, aug_sub, tru_lst, tru_tup, tru_non, ty_scr_list, sg_p0, sg_pl, ss_p0, ss_pl, ob_set0, ob_set1, ob_set2, ob_set3, ob_g0, ob_g1, ob_g2, ob_g3, List.append_assoc, List.length_append, List.nil_append, Nat.add_zero, Nat.add_assoc, Int.reduceNeg, wipeA, orc_run, orc_glob, orc_init, orc_isa, orc_gdct, W_isc, W_isE, W_isEt, orc_xk, m_upper, m_partition, m_split, m_endswith, m_find, mOk_upper, mOk_partition, mOk_split, mOk_endswith, mOk_find, b_intB, W_glob, W_gget, W_fld, W_mcall, W_make, W_make0, W_dsp, Ss_setFld, subO_l, subO_d, subO_k, lenO_l, lenO_d, listO_l, listO_d, putO_l, keyV_int, keyV_str, wIn_str, wNotin_str, mapSome, at_0, at_1, at_2, at_3, at_4, at_5, ix_1_0, ix_2_0, ix_2_1, ix_3_0, ix_3_1, ix_3_2, ix_4_0, ix_4_1, ix_4_2, ix_4_3, va_s0, va_s1, va_s2, va_s3])
/-- b with all beneath it goes beneath h, to the place p of the row without it; it stood beneath g -/
def Tre.rest (τ : Tre) (b h : Int) : List Int := (τ.row h).filter fun n => decide (n ≠ b)
def Tre.newr (τ : Tre) (b h : Int) (p : Nat) : List Int := insAt (τ.rest b h) p b
def Tre.move (τ : Tre) (b h g : Int) (p : Nat) : Tre := { τ with hold := up τ.hold b (some h), deep := fun n => if n ∈ τ.und b then τ.deep n + (τ.deep h + 1) - τ.deep b else τ.deep n, row := up (up τ.row g ((τ.row g).erase b)) h (τ.newr b h p) }
section
variable {τ : Tre} {b h g : Int} {p : Nat}
theorem rest_mem {n : Int} : n ∈ τ.rest b h ↔ n ∈ τ.row h ∧ n ≠ b := by
  show n ∈ (τ.row h).filter _ ↔ _
  rw [List.mem_filter, decide_eq_true_iff]
theorem WF.self_deep (w : WF τ) (hb : b ∈ τ.nums) {n : Int} (hn : n ∈ τ.und b) : τ.deep b ≤ τ.deep n := by
  obtain ⟨_, e | e⟩ := w.deep_le hb ((w.und_iff hb).mp hn)
  · rw [e]; exact Nat.le_refl _
  · omega
theorem WF.move (w : WF τ) (hb : b ∈ τ.nums) (h0 : b ≠ 0) (hg : τ.hold b = some g) (hh : h ∈ τ.nums) (hu : h ∉ τ.und b) (hd : ∀ n ∈ τ.und b, τ.deep n + (τ.deep h + 1) - τ.deep b ≤ 12) : WF (τ.move b h g p) := by
  obtain ⟨g', g1, g2, g3, g4⟩ := w.up b hb h0
  rw [hg] at g1; cases g1
  have hself : b ∈ τ.und b := sub_self 12 b
  have gu : g ∉ τ.und b := fun z => by have := w.self_deep hb z; omega
  have dep : ∀ n, (τ.move b h g p).deep n = if n ∈ τ.und b then τ.deep n + (τ.deep h + 1) - τ.deep b else τ.deep n := fun _ => rfl
  have hrow : (τ.move b h g p).row h = τ.newr b h p := up_eq
  have hrow2 : ∀ k, k ≠ h → (τ.move b h g p).row k = if k = g then (τ.row g).erase b else τ.row k := fun k e => by
    show TR.up (TR.up τ.row g _) h _ k = _
    rw [up_ne e]; rfl
  have hhold : ∀ n, n ≠ b → (τ.move b h g p).hold n = τ.hold n := fun n e => up_ne e
  refine ⟨w.nd, w.z, w.lt, (hhold 0 (Ne.symm h0)).trans w.h0, ?_, ?_, ?_, ?_, w.nm, ?_⟩
  · rw [dep, if_neg (w.und0 hb h0)]; exact w.d0
  · intro n hn n0
    by_cases e : n = b
    · subst e
      refine ⟨h, up_eq, hh, ?_, ?_⟩
      · rw [hrow]; exact mem_ins.mpr (.inl rfl)
      · rw [dep, dep, if_pos hself, if_neg hu]; omega
    · obtain ⟨k, k1, k2, k3, k4⟩ := w.up n hn n0
      refine ⟨k, (hhold n e).trans k1, k2, ?_, ?_⟩
      · by_cases c : k = h
        · subst c; rw [hrow]; exact mem_ins.mpr (.inr (rest_mem.mpr ⟨k3, e⟩))
        · rw [hrow2 k c]
          by_cases c2 : k = g
          · subst c2; rw [if_pos rfl]; exact (List.mem_erase_of_ne e).mpr k3
          · rw [if_neg c2]; exact k3
      · rw [dep, dep]
        by_cases z : n ∈ τ.und b
        · have zk := w.und_hold hb z e k1
          have := w.self_deep hb zk
          rw [if_pos z, if_pos zk]; omega
        · have zk : k ∉ τ.und b := fun y => z ((w.und_iff hb).mpr (.step ((w.und_iff hb).mp y) k3))
          rw [if_neg z, if_neg zk]; exact k4
  · intro k hk
    by_cases c : k = h
    · subst c; rw [hrow]
      exact nd_ins ((w.rnd k hk).filter _) fun z => (rest_mem.mp z).2 rfl
    · rw [hrow2 k c]
      by_cases c2 : k = g
      · subst c2; rw [if_pos rfl]; exact (w.rnd k hk).erase _
      · rw [if_neg c2]; exact w.rnd k hk
  · intro k hk n hn
    by_cases c : k = h
    · subst c
      rw [hrow] at hn
      rcases mem_ins.mp hn with rfl | z
      · exact ⟨hb, up_eq⟩
      · obtain ⟨z1, z2⟩ := rest_mem.mp z
        obtain ⟨y1, y2⟩ := w.row k hk n z1
        exact ⟨y1, (hhold n z2).trans y2⟩
    · rw [hrow2 k c] at hn
      have : n ∈ τ.row k ∧ n ≠ b := by
        by_cases c2 : k = g
        · subst c2
          rw [if_pos rfl] at hn
          exact ⟨List.mem_of_mem_erase hn, fun e => by rw [e] at hn; exact (w.rnd k hk).not_mem_erase hn⟩
        · rw [if_neg c2] at hn
          refine ⟨hn, fun e => ?_⟩
          rw [e] at hn
          have := (w.row k hk b hn).2
          rw [hg] at this; cases this
          exact c2 rfl
      obtain ⟨y1, y2⟩ := w.row k hk n this.1
      exact ⟨y1, (hhold n this.2).trans y2⟩
  · intro n hn
    rw [dep]
    by_cases z : n ∈ τ.und b
    · rw [if_pos z]; exact hd n z
    · rw [if_neg z]; exact w.dp n hn
/-- nothing moved -/
theorem WF.still (w : WF τ) (hb : b ∈ τ.nums) (h0 : b ≠ 0) (hg : τ.hold b = some g) (hh : h ∈ τ.nums) (e : τ.newr b h p = τ.row h) : τ.move b h g p = τ := by
  have hbm : b ∈ τ.row h := by rw [← e]; exact mem_ins.mpr (.inl rfl)
  have eg : g = h := by
    have := (w.row h hh b hbm).2
    rw [hg] at this; cases this; rfl
  subst eg
  have dk := (w.kid hh hbm).2
  have e1 : TR.up τ.hold b (some g) = τ.hold := by
    funext n
    by_cases c : n = b
    · subst c; rw [up_eq, hg]
    · exact up_ne c
  have e2 : (fun n => if n ∈ τ.und b then τ.deep n + (τ.deep g + 1) - τ.deep b else τ.deep n) = τ.deep := by
    funext n
    split
    · omega
    · rfl
  have e3 : TR.up (TR.up τ.row g ((τ.row g).erase b)) g (τ.newr b g p) = τ.row := by
    funext n
    by_cases c : n = g
    · subst c; rw [up_eq, e]
    · rw [up_ne c, up_ne c]
  unfold Tre.move
  rw [e1, e2, e3]
end
theorem Fr.low {D : Tag → Prop} {M : Mem} {S S' : Sto} (h : ∀ (k : Nat) (o : Ob), S[k]? = some o → S'[k]? = some o) : Fr D M S M S' := fun a o _ q => ⟨rfl, h _ _ q.1, q.2⟩
section
variable {M : Mem} {S : Sto} {i : Nat} {τ : Tre} (w : WF τ) (t : TreeAt M S i τ) {b h g : Int} {p : Nat} {P : PV} {E : PX}
include w t
theorem move_ok (k : Nat) (hb : b ∈ τ.nums) (h0 : b ≠ 0) (hg : τ.hold b = some g) (hh : h ∈ τ.nums) (hu : h ∉ τ.und b) (hd : ∀ n ∈ τ.und b, τ.deep n + (τ.deep h + 1) - τ.deep b ≤ 12) (hp : p ≤ (τ.rest b h).length) (hl : τ.nums.length ≤ 1000)
    (hP : ∀ M' S', TreeAt M' S' i (τ.move b h g p) → Fr (fun a => a.of i = false) M S M' S' → (∀ a : Tag, a ≠ .row i h → M'.L a = M.L a) → P (.bl (decide (τ.newr b h p ≠ τ.row h))) S') :
    call Hd.T (k + 3) "Tree.move" [.loc (M.L (.tree i)), .int b, .int h, .int (p : Nat)] S P E := by
  refine call_def (d := Hd.f_Tree_move) rfl rfl ?_
  unfold Hd.f_Tree_move
  walk_at "am"
  refine ⟨_, t.tree.1, _, rfl, found_ok t _ hb ?_⟩
  refine ⟨_, t.tree.1, _, rfl, found_ok t _ hh ?_⟩
  refine ⟨_, t.tree.1, _, rfl, withall_ok w t _ hb hl fun N => ?_⟩
  walk_at "am"
  rw [if_neg h0]
  refine in_ints (ys := τ.und b) LV.here ?_
  rw [decide_eq_false hu]
  walk_at "am"
  obtain ⟨S1, hS1⟩ : ∃ S1, S1 = S ++ .lst ((τ.und b).map Va.int) :: N := ⟨_, rfl⟩
  have t1 : TreeAt M S1 i τ := by rw [hS1]; exact t.app
  have hl1 : S.length ≤ S1.length := by rw [hS1]; simp
  have hu1 : S1[S.length]? = some (.lst ((τ.und b).map Va.int)) := by rw [hS1, sg_p0]; rfl
  rw [← hS1]
  refine seq_cut (call_mono _ _) (fun Γ S' => S' = S1 ++ [.lst ((τ.rest b h).map Va.int)] ∧ Γ = [some (.loc (M.L (.tree i))), some (.int b), some (.int h), some (.int (p : Int)), some (.loc (M.L (.bx i b))), some (.loc (M.L (.bx i h))), some (.loc S.length), some (.loc S1.length), none, none, none]) ?_ ?_
  · walk_at "am"
    refine ⟨_, (t1.box h hh).bx.1, _, rfl, _, (t1.box h hh).row.1, (t1.box h hh).row.app.1, ?_⟩
    refine cpL_map (call_mono _ _) (fun x => match x with | .int n => if decide (n ≠ b) = true then some x else none | _ => none) (by have := w.rlen hh; simp; omega) (fun acc => (t1.box h hh).row.app.1) ?_ ?_
    · intro x hx acc
      obtain ⟨n, hn, rfl⟩ := List.mem_map.mp hx
      refine ⟨_, rfl, ?_⟩
      walk_at "am"
      by_cases e : n = b
      · rw [if_neg (by simp [e])]; simp [e]
      · rw [if_pos (by simp [e])]; simp [e]
    · have e := fm_filter (fun n => decide (n ≠ b)) (τ.row h)
      exact ⟨congrArg (fun z => S1 ++ [.lst z]) e, rfl⟩
  rintro Γ S' ⟨rfl, rfl⟩
  walk_at "am"
  rw [if_pos (by omega), if_pos (by rw [List.length_map]; omega)]
  obtain ⟨S2, hS2⟩ : ∃ S2, S2 = S1 ++ [.lst ((τ.rest b h).map Va.int)] := ⟨_, rfl⟩
  have t2 : TreeAt M S2 i τ := by rw [hS2]; exact t1.app
  have hl2 : S1.length < S2.length := by rw [hS2]; simp
  have hr2 : S2[S1.length]? = some (.lst ((τ.rest b h).map Va.int)) := by rw [hS2, sg_p0]; rfl
  have hu2 : S2[S.length]? = some (.lst ((τ.und b).map Va.int)) := by rw [hS2]; exact gapp hu1
  rw [← hS2]
  refine ⟨_, (t2.box h hh).bx.1, _, rfl, ?_⟩
  walk_at "am"
  refine ⟨_, (t2.box b hb).bx.1, _, rfl, ?_⟩
  walk_at "am"
  refine ⟨_, hu2, gapp hu2, ?_⟩
  refine cpL_map (call_mono _ _) (fun x => match x with | .int n => some (.int (τ.deep n)) | _ => none) (by have := w.und_len hb; simp; omega) (fun acc => gapp hu2) ?_ ?_
  · intro x hx acc
    obtain ⟨n, hn, rfl⟩ := List.mem_map.mp hx
    refine ⟨_, rfl, ?_⟩
    have hn1 := w.und_mem hb hn
    have t3 : TreeAt M (S2 ++ [.lst acc]) i τ := t2.app
    walk_at "am"
    refine ⟨_, t3.tree.1, _, rfl, found_ok t3 _ hn1 ?_⟩
    exact ⟨_, rfl, _, (t3.box n hn1).bx.1, _, rfl, rfl, rfl⟩
  have e := fm_map (fun n => (τ.deep n : Int)) (τ.und b)
  obtain ⟨S3, hS3⟩ : ∃ S3, S3 = S2 ++ [.lst (((τ.und b).map fun n => (τ.deep n : Int)).map Va.int)] := ⟨_, rfl⟩
  have e3 : S2 ++ [.lst (((τ.und b).map Va.int).filterMap (fun x => match x with | .int n => some (.int (τ.deep n)) | _ => none))] = S3 := by rw [hS3]; exact congrArg (fun z => S2 ++ [.lst z]) e
  rw [e3]
  have t3 : TreeAt M S3 i τ := by rw [hS3]; exact t2.app
  have hr3 : S3[S1.length]? = some (.lst ((τ.rest b h).map Va.int)) := by rw [hS3]; exact gapp hr2
  have hu3 : S3[S.length]? = some (.lst ((τ.und b).map Va.int)) := by rw [hS3]; exact gapp hu2
  refine max_ints (.inr ⟨_, rfl, by rw [hS3, sg_p0]; rfl⟩) (fun z => sub_ne 12 b (List.map_eq_nil_iff.mp z)) fun m hm _ => ?_
  obtain ⟨n, hn, rfl⟩ := List.mem_map.mp hm
  have hdn := hd n hn
  walk_at "am"
  refine ⟨_, rfl, ?_⟩
  walk_at "am"
  rw [if_neg (by omega)]
  refine ⟨⟨_, hr3⟩, _, hr3, by rw [List.length_map]; have := w.rlen hh; have := List.length_filter_le (fun n => decide (n ≠ b)) (τ.row h); unfold Tre.rest; omega, by omega, by have := w.rlen hh; have := List.length_filter_le (fun n => decide (n ≠ b)) (τ.row h); unfold Tre.rest at hp; omega, ?_⟩
  have ei : List.take ((p : Int)).toNat ((τ.rest b h).map Va.int) ++ Va.int b :: List.drop ((p : Int)).toNat ((τ.rest b h).map Va.int) = (τ.newr b h p).map Va.int := by
    rw [Int.toNat_natCast]; unfold Tre.newr insAt; simp
  rw [ei]
  obtain ⟨S4, hS4⟩ : ∃ S4, S4 = S3.set S1.length (.lst ((τ.newr b h p).map Va.int)) := ⟨_, rfl⟩
  rw [← hS4]
  have f4 : Fr (fun a => a.of i = false) M S M S4 := Fr.low fun z o hz => by
    have hlt := (List.getElem?_eq_some_iff.mp hz).1
    rw [hS4, List.getElem?_set_ne (by omega), hS3, hS2, hS1]
    exact gapp (gapp (gapp hz))
  have f04 : Fr (fun _ => True) M S M S4 := Fr.low fun z o hz => by
    have hlt := (List.getElem?_eq_some_iff.mp hz).1
    rw [hS4, List.getElem?_set_ne (by omega), hS3, hS2, hS1]
    exact gapp (gapp (gapp hz))
  have t4 : TreeAt M S4 i τ := t.fr f04 fun _ _ => trivial
  have hr4 : S4[S1.length]? = some (.lst ((τ.newr b h p).map Va.int)) := by rw [hS4, List.getElem?_set_self (List.getElem?_eq_some_iff.mp hr3).1]
  have hu4 : S4[S.length]? = some (.lst ((τ.und b).map Va.int)) := by rw [hS4, List.getElem?_set_ne (by have : S1.length = S.length + 1 + N.length := (by rw [hS1]; simp; omega); omega)]; exact hu3
  refine ⟨_, (t4.box h hh).bx.1, _, rfl, eq_ints (.inr ⟨_, rfl, hr4⟩) (.inr ⟨_, rfl, (t4.box h hh).row.1⟩) ?_⟩
  walk_at "am"
  by_cases e : τ.newr b h p = τ.row h
  · rw [if_pos e]
    refine fin_keep ?_
    have := hP M S4 (by rw [w.still hb h0 hg hh e]; exact t4) f4 fun _ _ => rfl
    rw [decide_eq_false (fun z => z e)] at this
    exact this
  rw [if_neg e]
  obtain ⟨g', g1, hgn, gr, gd⟩ := w.up b hb h0
  rw [hg] at g1; cases g1
  refine ⟨_, t4.tree.1, _, rfl, _, (t4.box b hb).bx.1, hv (τ.hold b), rfl, ?_⟩
  rw [hg]
  refine found_ok t4 _ hgn ?_
  have hrg := (t4.box g hgn).row
  obtain ⟨jx, r1, r2, r3⟩ := rem_at gr
  refine ⟨_, rfl, _, (t4.box g hgn).bx.1, _, rfl, ⟨_, .inr ⟨_, rfl, hrg.1⟩⟩, ?_⟩
  walk_at "am"
  refine ⟨τ.row g, jx, hrg.1, r1, r2, ?_⟩
  rw [r3]
  have t5 := t4.setrow hgn ((τ.row g).erase b)
  have f5 : Fr (fun a => a.of i = false) M S4 M (S4.set (M.L (.row i g)) (.lst (((τ.row g).erase b).map Va.int))) := (Fr.set hrg _).weak fun a z => (by rintro rfl; simp [Tag.of] at z)
  have hlg : M.L (.row i g) < S.length := (t.box g hgn).row.lt
  have hr5 : (S4.set (M.L (.row i g)) (.lst (((τ.row g).erase b).map Va.int)))[S1.length]? = some (.lst ((τ.newr b h p).map Va.int)) := by rw [List.getElem?_set_ne (by omega)]; exact hr4
  have hu5 : (S4.set (M.L (.row i g)) (.lst (((τ.row g).erase b).map Va.int)))[S.length]? = some (.lst ((τ.und b).map Va.int)) := by rw [List.getElem?_set_ne (by omega)]; exact hu4
  obtain ⟨S5, hS5⟩ : ∃ S5, S5 = S4.set (M.L (.row i g)) (.lst (((τ.row g).erase b).map Va.int)) := ⟨_, rfl⟩
  rw [← hS5] at t5 f5 hr5 hu5 ⊢
  obtain ⟨τ1, hτ1⟩ : ∃ τ1, τ1 = { τ with row := up τ.row g ((τ.row g).erase b) } := ⟨_, rfl⟩
  rw [← hτ1] at t5
  have en1 : τ1.nums = τ.nums := by rw [hτ1]
  have hh1 : h ∈ τ1.nums := by rw [en1]; exact hh
  have hb1 : b ∈ τ1.nums := by rw [en1]; exact hb
  have t6 := TreeAt.newrow t hl1 t5 en1 hh1 hr5
  obtain ⟨M6, hM6⟩ : ∃ M6, M6 = M.new (.row i h) S1.length := ⟨_, rfl⟩
  obtain ⟨τ2, hτ2⟩ : ∃ τ2, τ2 = { τ1 with row := up τ1.row h (τ.newr b h p) } := ⟨_, rfl⟩
  rw [← hM6, ← hτ2] at t6
  have eM : ∀ a : Tag, a ≠ .row i h → M6.L a = M.L a := fun a ha => by rw [hM6]; exact new_ne ha
  have eMh : M6.L (.row i h) = S1.length := by rw [hM6]; exact new_eq
  refine ⟨_, (t5.box h hh1).bx.1, .ins "Box" (boxF M6 i τ2 h), ?_, ?_⟩
  · unfold boxF
    rw [eMh, eM _ (by simp), eM _ (by simp), hτ2]
    rfl
  have f6 : Fr (fun a => a.of i = false) M S5 M (S5.set (M.L (.bx i h)) (.ins "Box" (boxF M6 i τ2 h))) := (Fr.set (t5.box h hh1).bx _).weak fun a z => (by rintro rfl; simp [Tag.of] at z)
  have hlh : M.L (.bx i h) < S.length := (t.box h hh).bx.lt
  have hu6 : (S5.set (M.L (.bx i h)) (.ins "Box" (boxF M6 i τ2 h)))[S.length]? = some (.lst ((τ.und b).map Va.int)) := by rw [List.getElem?_set_ne (by omega)]; exact hu5
  obtain ⟨S6, hS6⟩ : ∃ S6, S6 = S5.set (M.L (.bx i h)) (.ins "Box" (boxF M6 i τ2 h)) := ⟨_, rfl⟩
  rw [← hS6] at t6 f6 hu6 ⊢
  have F6 : Fr (fun a => a.of i = false) M S M6 S6 := by
    have := ((f4.trans f5).trans f6).thenNew (c := .row i h) hl1
    rw [← hM6] at this
    exact this.weak fun a z => ⟨z, (by rintro rfl; simp [Tag.of] at z)⟩
  have en2 : τ2.nums = τ.nums := by rw [hτ2]; exact en1
  have hb2 : b ∈ τ2.nums := by rw [en2]; exact hb
  obtain ⟨τ3, hτ3⟩ : ∃ τ3, τ3 = { τ2 with hold := up τ2.hold b (some h) } := ⟨_, rfl⟩
  have t7 := t6.setbx hb2 (τ' := τ3) (by rw [hτ3]) (by rw [hτ3]) (by rw [hτ3]) (by rw [hτ3]) (by rw [hτ3]) (fun m hm => by rw [hτ3]; exact ⟨rfl, up_ne hm, rfl, rfl⟩)
  have f7 : Fr (fun a => a.of i = false) M6 S6 M6 (S6.set (M6.L (.bx i b)) (.ins "Box" (boxF M6 i τ3 b))) := (Fr.set (t6.box b hb2).bx _).weak fun a z => (by rintro rfl; simp [Tag.of] at z)
  have hlb : M.L (.bx i b) < S.length := (t.box b hb).bx.lt
  rw [eM _ (by simp)] at t7 f7
  refine ⟨_, by have := (t6.box b hb2).bx.1; rw [eM _ (by simp)] at this; exact this, .ins "Box" (boxF M6 i τ3 b), ?_, ?_⟩
  · have e3h : τ3.hold b = some h := by rw [hτ3]; exact up_eq
    unfold boxF
    rw [e3h, hτ3]
    rfl
  have hu7 : (S6.set (M.L (.bx i b)) (.ins "Box" (boxF M6 i τ3 b)))[S.length]? = some (.lst ((τ.und b).map Va.int)) := by rw [List.getElem?_set_ne (by omega)]; exact hu6
  obtain ⟨S7, hS7⟩ : ∃ S7, S7 = S6.set (M.L (.bx i b)) (.ins "Box" (boxF M6 i τ3 b)) := ⟨_, rfl⟩
  rw [← hS7] at t7 f7 hu7 ⊢
  let τj : Nat → Tre := fun j => { τ3 with deep := fun n => if n ∈ (τ.und b).take j then τ.deep n + (τ.deep h + 1) - τ.deep b else τ.deep n }
  have ed3 : τ3.deep = τ.deep := by rw [hτ3, hτ2, hτ1]
  have ev : τj (τ.und b).length = τ.move b h g p := by
    show ({ τ3 with deep := fun n => if n ∈ (τ.und b).take (τ.und b).length then τ.deep n + (τ.deep h + 1) - τ.deep b else τ.deep n } : Tre) = _
    rw [List.take_length, hτ3, hτ2, hτ1]
    rfl
  have e0 : τj 0 = τ3 := by
    show ({ τ3 with deep := fun n => if n ∈ (τ.und b).take 0 then _ else τ.deep n } : Tre) = _
    rw [hτ3, hτ2, hτ1]
    simp
  have enj : ∀ j, (τj j).nums = τ.nums := fun j => by show τ3.nums = _; rw [hτ3]; exact en2
  refine seq_cut (call_mono _ _) (fun Γ S' => TreeAt M6 S' i (τ.move b h g p) ∧ Fr (fun a => a.of i = false) M6 S7 M6 S') ?_ ?_
  · walk_at "am"
    refine ⟨_, hu7, hu7, ?_⟩
    refine for_ix (call_mono _ _) (fun j Γ S' => TreeAt M6 S' i (τj j) ∧ S'[S.length]? = some (.lst ((τ.und b).map Va.int)) ∧ Fr (fun a => a.of i = false) M6 S7 M6 S' ∧ ∃ o8 o10, Γ = [some (.loc (M.L (.tree i))), some (.int b), some (.int h), some (.int (p : Int)), some (.loc (M.L (.bx i b))), some (.loc (M.L (.bx i h))), some (.loc S.length), some (.loc S1.length), o8, some (.int ((τ.deep h : Int) + 1 - τ.deep b)), o10]) ⟨by rw [e0]; exact t7, hu7, .refl, none, none, rfl⟩ ?_ ?_
    · rintro j x Γ S8 hx ⟨t8, hu8, f8, o8, o10, rfl⟩
      obtain ⟨n, hn', rfl⟩ := Option.map_eq_some_iff.mp (by rw [List.getElem?_map] at hx; exact hx)
      have hju : j < (τ.und b).length := lt_of_get hn'
      have hnu := List.mem_of_getElem? hn'
      have hn1 := w.und_mem hb hnu
      have hnj : n ∈ (τj j).nums := by rw [enj]; exact hn1
      have hnt : n ∉ (τ.und b).take j := fun z => by
        obtain ⟨a, ha, e⟩ := List.mem_take_iff_getElem.mp z
        obtain ⟨q1, q2⟩ := List.getElem?_eq_some_iff.mp hn'
        exact List.pairwise_iff_getElem.mp (w.und_nd hb) a j (by omega) hju (by omega) (e.trans q2.symm)
      have hle := w.self_deep hb hnu
      refine ⟨_, rfl, ?_⟩
      walk_at "am"
      have tt := t8.tree.1
      rw [eM _ (by simp)] at tt
      refine ⟨_, tt, _, rfl, ?_⟩
      rw [← eM (.tree i) (by simp)]
      refine found_ok t8 _ hnj ?_
      walk_at "am"
      rw [WSs_cons, WS_augFld]
      walk_at "am"
      have Bn := (t8.box n hnj).bx
      have hdj : (τj j).deep n = τ.deep n := if_neg hnt
      have tk : (τ.und b).take (j + 1) = (τ.und b).take j ++ [n] := by rw [List.take_succ, hn']; rfl
      have hds : (τj (j + 1)).deep n = τ.deep n + (τ.deep h + 1) - τ.deep b := if_pos (by rw [tk]; exact List.mem_append_right _ (List.mem_singleton.mpr rfl))
      have t9 := t8.setbx hnj (τ' := τj (j + 1)) rfl rfl rfl rfl rfl (fun m hm => ⟨rfl, rfl, by
        show (if m ∈ (τ.und b).take (j + 1) then _ else _) = if m ∈ (τ.und b).take j then _ else _
        rw [tk]; simp [hm], rfl⟩)
      have f9 : Fr (fun a => a.of i = false) M6 S8 M6 (S8.set (M6.L (.bx i n)) (.ins "Box" (boxF M6 i (τj (j + 1)) n))) := (Fr.set Bn _).weak fun a z => (by rintro rfl; simp [Tag.of] at z)
      have hlb' : M6.L (.bx i n) < S.length := by rw [eM _ (by simp)]; exact (t.box n hn1).bx.lt
      have hu9 : (S8.set (M6.L (.bx i n)) (.ins "Box" (boxF M6 i (τj (j + 1)) n)))[S.length]? = some (.lst ((τ.und b).map Va.int)) := by rw [List.getElem?_set_ne (by omega)]; exact hu8
      refine ⟨_, Bn.1, .int ((τj j).deep n), rfl, _, rfl, _, Bn.1, rfl, .ins "Box" (boxF M6 i (τj (j + 1)) n), ?_, hu9, t9, hu9, f8.trans f9, _, _, rfl⟩
      unfold boxF
      rw [hds, hdj, show ((τ.deep n : Int) + ((τ.deep h : Int) + 1 - τ.deep b)) = ((τ.deep n + (τ.deep h + 1) - τ.deep b : Nat) : Int) by omega]
      rfl
    · rintro Γ S' ⟨t8, hu8, f8, o8, o10, rfl⟩
      rw [List.length_map, ev] at t8
      exact ⟨t8, f8⟩
  rintro Γ S' ⟨t8, f8⟩
  walk_at "am"
  have := hP M6 S' t8 ((F6.trans f7).trans f8) eM
  rw [decide_eq_true e] at this
  exact fin_keep this
end
end TR
end

section
set_option linter.all false
set_option maxRecDepth 100000
set_option maxHeartbeats 4000000
/-! Trees: the law's own move. -/
open PySem
namespace TR
open PySem AM NM
local macro_rules | `(tactic| walk_at "am") => `(tactic| try simp only [m_remove, st_set0, st_setS, iteTrue, iteFalse, iteDec, iteNDec, exSome, exBl, W_var, W_int, W_bl, W_non, W_str, W_tup, W_lst, W_bin, W_neg, W_cmp, W_isN, W_notN, W_lrev, W_maxd, W_sortk, wIsb, wNisb, W_chain, W_chain3, W_tst, W_ite, W_call, W_len, W_abs, W_isi, W_sub, WT_val, WT_not, WT_and, WT_or, WA_one, WA_cons, WO_one, WO_cons, WB_val, WB_not, WB_and, WB_or, WBA_one, WBA_cons, WBO_one, WBO_cons, WL_nil, WL_cons, WS_set, WS_ret, WS_retN, WS_pass, WS_brk, WS_cont, WS_drop, WS_ite, WS_raise, WSs_nil, Ss_set, Ss_ret, Ss_retN, Ss_pass, Ss_brk, Ss_cont, Ss_drop, Ss_raise, Ss_ite_ret, Ss_ite_retN, Ss_ite_raise, Ss_ite_cont, Ss_ite_brk, Ss_ite_last, gt_0, gt_S, wAdd_int, wSub_int, wMul_int, wMul_rep, wMul_str, wDiv_int, wMod_int, wPow_int, wAdd_str, wNeg_int, wAbs_int, wLt_int, wLe_int, wGt_int, wGe_int, wEq_int, wNe_int, wEq_bl, wNe_bl, wEq_str, wNe_str, wLen_tup, wLen_lst, tru_bl, tru_int, ty_int_int, ty_int_bool, ty_int_str, ty_int_tuple, ty_int_list, ty_int_dict, ty_bl_int, ty_bl_bool, ty_bl_str, ty_bl_tuple, ty_bl_list, ty_bl_dict, ty_str_int, ty_str_bool, ty_str_str, ty_str_tuple, ty_str_list, ty_str_dict, ty_tup_int, ty_tup_bool, ty_tup_str, ty_tup_tuple, ty_tup_list, ty_tup_dict, ty_lst_int, ty_lst_bool, ty_lst_str, ty_lst_tuple, ty_lst_list, ty_lst_dict, ty_dct_int, ty_dct_bool, ty_dct_str, ty_dct_tuple, ty_dct_list, ty_dct_dict, ty_non, sub_tup0, sub_tup1, sub_tup2, sub_tup3, sub_tup4, sub_tup5, sub_lst0, sub_lst1, sub_lst2, sub_lst3, sub_lst4, sub_lst5, startA, List.map_cons, List.map_nil, List.length_cons, List.length_nil, List.replicate, List.cons_append, List.nil_append, true_and, and_true, ne_eq, isNon, Bool.not_true, Bool.not_false, Bool.true_or, Bool.or_true, Bool.false_or, reduceIte, Nat.reduceAdd, Nat.zero_add, Int.cast_ofNat_Int, Int.reduceEq, Int.reduceLT, Int.reduceLE, Nat.reduceLeDiff, decide_true, decide_false, not_true_eq_false, not_false_eq_true, Nat.reduceSub, Int.reduceToNat, W_slice, W_blt, W_mth, W_comp, WOe_none, WOe_some, WI_seq, WI_keys, WI_items, WI_range1, WI_range2, WI_enum, WI_zip, WI_rev, WI_revr, WI_rangeD, WT0_none, WT0_some, Ss_asg, Ss_setSub, Ss_aug, WS_asg, WS_aug, WS_for, WS_setC, bT_name, bT_tup, bT_lst, bTs_nil, bTs_name, seq_lst, seq_tup, seq_scr, seq_str, seq_loc, en_tup, en_lst, en_scr, en_loc, lst_lst, lst_scr, lst_loc, exInt, exLoc, exLst, exLst1, exLV_lst, exLV_loc, mOk_app, mOk_pop, mOk_ext, mOk_ins, mOk_ind, mOk_join, mOk_indl, m_append, m_pop, m_extend, m_insert, m_join, b_listL, b_listT, b_listS, b_listK, b_tupL, b_tupT, b_tupK, b_max2, b_min2, b_ord, b_str, sl_lst, sl_loc, sl_scr, sl_tupE, sl_strE, cat_lst, cat_loc, cat_tup, wLen_scr, wLen_loc, wLen_str, wSub_scr, wSub_loc, wSub_str, aug_add, aug_sub, tru_lst, tru_tup, tru_non, ty_scr_list, sg_p0, sg_pl, ss_p0, ss_pl, ob_set0, ob_set1, ob_set2, ob_set3, ob_g0, ob_g1, ob_g2, ob_g3, List.append_assoc, List.length_append, List.nil_append, Nat.add_zero, Nat.add_assoc, Int.reduceNeg, wipeA, orc_run, orc_glob, orc_init, orc_isa, orc_gdct, W_isc, W_isE, W_isEt, orc_xk, m_upper, m_partition, m_split, m_endswith, m_find, mOk_upper, mOk_partition, mOk_split, mOk_endswith, mOk_find, b_intB, W_glob, W_gget, W_fld, W_mcall, W_make, W_make0, W_dsp, Ss_setFld, subO_l, subO_d, subO_k, lenO_l, lenO_d, listO_l, listO_d, putO_l, keyV_int, keyV_str, wIn_str, wNotin_str, mapSome, at_0, at_1, at_2, at_3, at_4, at_5, ix_1_0, ix_2_0, ix_2_1, ix_3_0, ix_3_1, ix_3_2, ix_4_0, ix_4_1, ix_4_2, ix_4_3, va_s0, va_s1, va_s2, va_s3])
local macro_rules | `(tactic| walk_at "if") => `(tactic| (try simp only []); rw [Ss_ite]; simp only [m_remove, st_set0, st_setS, iteTrue, iteFalse, iteDec, iteNDec, exSome, exBl, W_var, W_int, W_bl, W_non, W_str, W_tup, W_lst, W_bin, W_neg, W_cmp, W_isN, W_notN, W_lrev, W_maxd, W_sortk, wIsb, wNisb, W_chain, W_chain3, W_tst, W_ite, W_call, W_len, W_abs, W_isi, W_sub, WT_val, WT_not, WT_and, WT_or, WA_one, WA_cons, WO_one, WO_cons, WB_val, WB_not, WB_and, WB_or, WBA_one, WBA_cons, WBO_one, WBO_cons, WL_nil, WL_cons, WS_set, WS_ret, WS_retN, WS_pass, WS_brk, WS_cont, WS_drop, WS_ite, WS_raise, WSs_nil, Ss_set, Ss_ret, Ss_retN, Ss_pass, Ss_brk, Ss_cont, Ss_drop, Ss_raise, Ss_ite_ret, Ss_ite_retN, Ss_ite_raise, Ss_ite_cont, Ss_ite_brk, Ss_ite_last, gt_0, gt_S, wAdd_int, wSub_int, wMul_int, wMul_rep, wMul_str, wDiv_int, wMod_int, wPow_int, wAdd_str, wNeg_int, wAbs_int, wLt_int, wLe_int, wGt_int, wGe_int, wEq_int, wNe_int, wEq_bl, wNe_bl, wEq_str, wNe_str, wLen_tup, wLen_lst, tru_bl, tru_int, ty_int_int, ty_int_bool, ty_int_str, ty_int_tuple, ty_int_list, ty_int_dict, ty_bl_int, ty_bl_bool, ty_bl_str, ty_bl_tuple, ty_bl_list, ty_bl_dict, ty_str_int, ty_str_bool, ty_str_str, ty_str_tuple, ty_str_list, ty_str_dict, ty_tup_int, ty_tup_bool, ty_tup_str, ty_tup_tuple, ty_tup_list, ty_tup_dict, ty_lst_int, ty_lst_bool, ty_lst_str, ty_lst_tuple, ty_lst_list, ty_lst_dict, ty_dct_int, ty_dct_bool, ty_dct_str, ty_dct_tuple, ty_dct_list, ty_dct_dict, ty_non, sub_tup0, sub_tup1, sub_tup2, sub_tup3, sub_tup4, sub_tup5, sub_lst0, sub_lst1, sub_lst2, sub_lst3, sub_lst4, sub_lst5, startA, List.map_cons, List.map_nil, List.length_cons, List.length_nil, List.replicate, List.cons_append, List.nil_append, true_and, and_true, ne_eq, isNon, Bool.not_true, Bool.not_false, Bool.true_or, Bool.or_true, Bool.false_or, reduceIte, Nat.reduceAdd, Nat.zero_add, Int.cast_ofNat_Int, Int.reduceEq, Int.reduceLT, Int.reduceLE, Nat.reduceLeDiff, decide_true, decide_false, not_true_eq_false, not_false_eq_true, Nat.reduceSub, Int.reduceToNat, W_slice, W_blt, W_mth, W_comp, WOe_none, WOe_some, WI_seq, WI_keys, WI_items, WI_range1, WI_range2, WI_enum, WI_zip, WI_rev, WI_revr, WI_rangeD, WT0_none, WT0_some, Ss_asg, Ss_setSub, Ss_aug, WS_asg, WS_aug, WS_for, WS_setC, bT_name, bT_tup, bT_lst, bTs_nil, bTs_name, seq_lst, seq_tup, seq_scr, seq_str, seq_loc, en_tup, en_lst, en_scr, en_loc, lst_lst, lst_scr, lst_loc, exInt, exLoc, exLst, exLst1, exLV_lst, exLV_loc, mOk_app, mOk_pop, mOk_ext, mOk_ins, mOk_ind, mOk_join, mOk_indl, m_append, m_pop, m_extend, m_insert, m_join, b_listL, b_listT, b_listS, b_listK, b_tupL, b_tupT, b_tupK, b_max2, b_min2, b_ord, b_str, sl_lst, sl_loc, sl_scr, sl_tupE, sl_strE, cat_lst, cat_loc, cat_tup, wLen_scr, wLen_loc, wLen_str, wSub_scr, wSub_loc, wSub_str, aug_add, aug_sub, tru_lst, tru_tup, tru_non, ty_scr_list, sg_p0, sg_pl, ss_p0, ss_pl, ob_set0, ob_set1, ob_set2, ob_set3, ob_g0, ob_g1, ob_g2, ob_g3, List.append_assoc, List.length_append, List.nil_append, Nat.add_zero, Nat.add_assoc, Int.reduceNeg, wipeA, orc_run, orc_glob, orc_init, orc_isa, orc_gdct, W_isc, W_isE, W_isEt, orc_xk, m_upper, m_partition, m_split, m_endswith, m_find, mOk_upper, mOk_partition, mOk_split, mOk_endswith, mOk_find, b_intB, W_glob, W_gget, W_fld, W_mcall, W_make, W_make0, W_dsp, Ss_setFld, subO_l, subO_d, subO_k, lenO_l, lenO_d, listO_l, listO_d, putO_l, keyV_int, keyV_str, wIn_str, wNotin_str, mapSome, at_0, at_1, at_2, at_3, at_4, at_5, ix_1_0, ix_2_0, ix_2_1, ix_3_0, ix_3_1, ix_3_2, ix_4_0, ix_4_1, ix_4_2, ix_4_3, va_s0, va_s1, va_s2, va_s3])
/-- a place under another tag -/
theorem Fr.ren {M : Mem} {S : Sto} {c d : Tag} {o : Ob} (h : Pt M S c o) : Fr (fun a => a ≠ c ∧ a ≠ d) M S (M.new d (M.L c)) S := fun a u z q => by
  have e : (M.new d (M.L c)).L a = M.L a := new_ne z.2
  refine ⟨e, by rw [e]; exact q.1, ?_⟩
  rw [e]
  show (if M.L a = M.L c then some d else M.own (M.L a)) = _
  rw [if_neg (fun y => by have := q.2; rw [y, h.2] at this; exact z.1 (Option.some.inj this).symm)]
  exact q.2
theorem Pt.ren {M : Mem} {S : Sto} {c d : Tag} {o : Ob} (h : Pt M S c o) : Pt (M.new d (M.L c)) S d o := .mk new_eq h.1 (by simp [Mem.new])
theorem moved_ok (k : Nat) {M : Mem} {S : Sto} {i : Nat} {τ : Tre} (w : WF τ) (r : Rt τ) (t : TreeAt M S i τ) (l : LawAt false M S i τ) (h2 : 2 ≤ τ.nums.length) (hl : τ.nums.length < 90) (hcm : τ.coming ≤ 900000) {c : Int} {v : Int} (hc : Cb c) (hw : v.natAbs ≤ 18000) {P : PV} {E : PX}
    (hP : ∀ M' S' b h g p, b ∈ τ.nums → b ≠ 0 → τ.hold b = some g → h ∈ τ.nums → h ∉ τ.und b → (∀ n ∈ τ.und b, τ.deep n + (τ.deep h + 1) - τ.deep b ≤ 12) → TreeAt M' S' i (τ.move b h g p) → LawAt false M' S' i (τ.move b h g p) → Fr (fun a => a.of i = false ∧ a.lof i = false ∧ a ≠ .top 8) M S M' S' → (∀ a : Tag, a ≠ .row i h → a ≠ .lrow i h → a ≠ .top 8 → M'.L a = M.L a) → P (.bl true) S') :
    call Hd.T (k + 4) "_law_moved" [.loc (M.L (.tree i)), .loc (M.L (.lrows i)), .loc (M.L (.lfacts i)), .int c, .int v] S P E := by
  refine call_def (d := Hd.f_l_moved) rfl rfl ?_
  unfold Hd.f_l_moved
  have hlv : (lrv M i τ).length = τ.nums.length := kd_len
  have lr : Pt M S (.lrows i) (.dct (lrv M i τ)) := l.rows
  walk_at "am"
  refine ⟨_, lr.1, ?_⟩
  walk_at "am"
  have ek : (lrv M i τ).map (fun kv => keyA kv.1) = τ.nums.map Va.int := kd_keys
  rw [ek]
  obtain ⟨S1, hS1⟩ : ∃ S1, S1 = S ++ [.lst (τ.nums.map Va.int)] := ⟨_, rfl⟩
  have t1 : TreeAt M S1 i τ := by rw [hS1]; exact t.app
  have l1 : LawAt false M S1 i τ := by rw [hS1]; exact l.app
  have lr1 : Pt M S1 (.lrows i) (.dct (lrv M i τ)) := l1.rows
  have n1 : S1[S.length]? = some (.lst (τ.nums.map Va.int)) := by rw [hS1, sg_p0]; rfl
  rw [← hS1]
  refine mix_ok nmT _ c v hc (by omega) fun m m0 m1 => ?_
  walk_at "am"
  refine ⟨_, n1, ?_⟩
  walk_at "am"
  rw [List.length_map]
  refine ⟨by omega, ?_⟩
  obtain ⟨b, hba, hb, h0⟩ := r.pick w h2 m
  refine ⟨_, n1, ?_⟩
  walk_at "am"
  refine ⟨_, hba, ?_⟩
  refine under_ok _ w l1 hb (by omega) ?_
  obtain ⟨g, hg, hgn, hbr, hdp⟩ := w.up b hb h0
  walk_at "am"
  refine cpL_map (call_mono _ _) (fun x => match x with | .int n => some (.int (τ.deep n)) | _ => none) (by have := w.und_len hb; simp; omega) (fun acc => trivial) ?_ ?_
  · intro x hx acc
    obtain ⟨n, hn, rfl⟩ := List.mem_map.mp hx
    refine ⟨_, rfl, ?_⟩
    have hn1 := w.und_mem hb hn
    walk_at "am"
    refine deep_ok _ (b := false) w (l1.app (N := [.lst acc])).facts hn1 ?_
    exact ⟨rfl, rfl⟩
  have e := fm_map (fun n => (τ.deep n : Int)) (τ.und b)
  obtain ⟨S2, hS2⟩ : ∃ S2, S2 = S1 ++ [.lst (((τ.und b).map fun n => (τ.deep n : Int)).map Va.int)] := ⟨_, rfl⟩
  have e2 : S1 ++ [.lst (((τ.und b).map Va.int).filterMap (fun x => match x with | .int n => some (.int (τ.deep n)) | _ => none))] = S2 := by rw [hS2]; exact congrArg (fun z => S1 ++ [.lst z]) e
  rw [e2]
  have t2 : TreeAt M S2 i τ := by rw [hS2]; exact t1.app
  have l2 : LawAt false M S2 i τ := by rw [hS2]; exact l1.app
  have n2 : S2[S.length]? = some (.lst (τ.nums.map Va.int)) := by rw [hS2]; exact gapp n1
  refine max_ints (.inr ⟨_, rfl, by rw [hS2, sg_p0]; rfl⟩) (fun z => sub_ne 12 b (List.map_eq_nil_iff.mp z)) fun mx hm hmx => ?_
  have hmx' : ∀ n ∈ τ.und b, (τ.deep n : Int) ≤ mx := fun n hn => hmx _ (List.mem_map.mpr ⟨n, hn, rfl⟩)
  have hmd : mx ≤ 12 := by
    obtain ⟨n, hn, rfl⟩ := List.mem_map.mp hm
    have := w.dp n (w.und_mem hb hn)
    omega
  refine deep_ok _ (b := false) w l2.facts hb ?_
  walk_at "am"
  obtain ⟨T, hT⟩ : ∃ T : Int, T = mx - τ.deep b := ⟨_, rfl⟩
  rw [← hT]
  refine seq_cut (call_mono _ _) (fun Γ S' => ∃ xs : List Int, xs ≠ [] ∧ (∀ x ∈ xs, x ∈ τ.nums ∧ x ∉ τ.und b ∧ (τ.deep x : Int) + 1 + T ≤ 12) ∧ S' = S2 ++ [.lst (xs.map Va.int)] ∧ Γ = [some (.loc (M.L (.tree i))), some (.loc (M.L (.lrows i))), some (.loc (M.L (.lfacts i))), some (.int c), some (.int v), some (.loc S.length), some (.int b), some (.lst ((τ.und b).map Va.int)), some (.int T), none, some (.loc S2.length), none, none, none, none, none, none]) ?_ ?_
  · walk_at "am"
    refine ⟨_, n2, gapp n2, ?_⟩
    let pq : Int → Bool := fun x => decide (x ∉ τ.und b ∧ (τ.deep x : Int) + 1 + T ≤ 12)
    refine cpL_map (call_mono _ _) (fun x => match x with | .int n => if pq n = true then some x else none | _ => none) (by simp; omega) (fun acc => gapp n2) ?_ ?_
    · intro x hx acc
      obtain ⟨n, hn, rfl⟩ := List.mem_map.mp hx
      refine ⟨_, rfl, ?_⟩
      walk_at "am"
      refine notin_ints (ys := τ.und b) (.inl rfl) ?_
      walk_at "am"
      by_cases z : n ∈ τ.und b
      · have ep : pq n = false := decide_eq_false fun y => y.1 z
        rw [if_pos z, ep]; trivial
      rw [if_neg z]
      refine deep_ok _ (b := false) w (l2.app (N := [.lst acc])).facts hn ?_
      walk_at "am"
      by_cases y : (τ.deep n : Int) + 1 + T ≤ 12
      · have ep : pq n = true := decide_eq_true ⟨z, y⟩
        rw [ep]
        exact ⟨decide_eq_true y, rfl⟩
      · have ep : pq n = false := decide_eq_false fun q => y q.2
        rw [ep]
        exact decide_eq_false y
    · have e := fm_filter pq τ.nums
      refine ⟨τ.nums.filter pq, fun z => ?_, fun x hx => ?_, congrArg (fun z => S2 ++ [.lst z]) e, rfl⟩
      · have : (0 : Int) ∈ τ.nums.filter pq := List.mem_filter.mpr ⟨w.z, decide_eq_true ⟨w.und0 hb h0, by rw [w.d0]; omega⟩⟩
        rw [z] at this; cases this
      · obtain ⟨y1, y2⟩ := List.mem_filter.mp hx
        exact ⟨y1, of_decide_eq_true y2⟩
  rintro Γ S' ⟨xs, hx0, hx, rfl, rfl⟩
  obtain ⟨S3, hS3⟩ : ∃ S3, S3 = S2 ++ [.lst (xs.map Va.int)] := ⟨_, rfl⟩
  have t3 : TreeAt M S3 i τ := by rw [hS3]; exact t2.app
  have l3 : LawAt false M S3 i τ := by rw [hS3]; exact l2.app
  have x3 : S3[S2.length]? = some (.lst (xs.map Va.int)) := by rw [hS3, sg_p0]; rfl
  rw [← hS3]
  walk_at "am"
  refine mix_ok nmT _ c (v + 1) hc (by omega) fun m2 m20 m21 => ?_
  walk_at "am"
  obtain ⟨y, hy, hya⟩ := at_modI (d := m2.fdiv 3) hx0
  have hxp := List.length_pos_iff.mpr hx0
  refine ⟨cdv 3 (by decide) (by decide), _, x3, ?_⟩
  walk_at "am"
  rw [List.length_map]
  refine ⟨by omega, _, x3, ?_⟩
  walk_at "am"
  refine ⟨_, hya, ?_⟩
  refine seq_cut (call_mono _ _) (fun Γ S' => ∃ h : Int, h ∈ τ.nums ∧ h ∉ τ.und b ∧ (∀ n ∈ τ.und b, τ.deep n + (τ.deep h + 1) - τ.deep b ≤ 12) ∧ S' = S3 ∧ Γ = [some (.loc (M.L (.tree i))), some (.loc (M.L (.lrows i))), some (.loc (M.L (.lfacts i))), some (.int c), some (.int v), some (.loc S.length), some (.int b), some (.lst ((τ.und b).map Va.int)), some (.int T), none, some (.loc S2.length), some (.int m2), some (.int h), none, none, none, none]) ?_ ?_
  · walk_at "am"
    split
    · obtain ⟨kvf, hF, hf⟩ := l3.facts
      refine ⟨_, hf.1, ?_⟩
      have hgf := hF.get b hb
      walk_at "am"
      refine ⟨_, hgf, ?_⟩
      rw [hg]
      simp only [hv]
      walk_at "am"
      refine ⟨g, hgn, fun z => ?_, fun n hn => ?_, rfl⟩
      · have := w.self_deep hb z; omega
      · have := w.dp n (w.und_mem hb hn); have := w.self_deep hb hn; omega
    · obtain ⟨y1, y2, y3⟩ := hx y hy
      refine ⟨y, y1, y2, fun n hn => ?_, rfl⟩
      have := hmx' n hn
      omega
  rintro Γ S' ⟨h, hh, hu, hd, eS, rfl⟩
  rw [eS]
  clear eS S'
  have hlS : S.length ≤ S3.length := by rw [hS3, hS2, hS1]; simp
  refine seq_cut (call_mono _ _) (fun Γ S' => S' = S3 ++ [.lst ((τ.rest b h).map Va.int)] ∧ Γ = [some (.loc (M.L (.tree i))), some (.loc (M.L (.lrows i))), some (.loc (M.L (.lfacts i))), some (.int c), some (.int v), some (.loc S.length), some (.int b), some (.lst ((τ.und b).map Va.int)), some (.int T), none, some (.loc S2.length), some (.int m2), some (.int h), some (.loc S3.length), none, none, none]) ?_ ?_
  · walk_at "am"
    have lr3 : Pt M S3 (.lrows i) (.dct (lrv M i τ)) := l3.rows
    have hgh : dget (lrv M i τ) (.inl h) = some (.loc (M.L (.lrow i h))) := dget_kd (f := fun n => Va.loc (M.L (.lrow i n))) hh
    refine ⟨_, lr3.1, ?_⟩
    walk_at "am"
    refine ⟨_, hgh, ?_⟩
    walk_at "am"
    refine ⟨_, (l3.row h hh).1, (l3.row h hh).app.1, ?_⟩
    refine cpL_map (call_mono _ _) (fun x => match x with | .int n => if decide (n ≠ b) = true then some x else none | _ => none) (by have := w.rlen hh; simp; omega) (fun acc => (l3.row h hh).app.1) ?_ ?_
    · intro x hx acc
      obtain ⟨n, hn, rfl⟩ := List.mem_map.mp hx
      refine ⟨_, rfl, ?_⟩
      walk_at "am"
      by_cases e : n = b
      · rw [if_neg (by simp [e])]; simp [e]
      · rw [if_pos (by simp [e])]; simp [e]
    · have e := fm_filter (fun n => decide (n ≠ b)) (τ.row h)
      exact ⟨congrArg (fun z => S3 ++ [.lst z]) e, rfl⟩
  rintro Γ S' ⟨rfl, rfl⟩
  obtain ⟨S4, hS4⟩ : ∃ S4, S4 = S3 ++ [.lst ((τ.rest b h).map Va.int)] := ⟨_, rfl⟩
  have r4 : S4[S3.length]? = some (.lst ((τ.rest b h).map Va.int)) := by rw [hS4, sg_p0]; rfl
  rw [← hS4]
  walk_at "am"
  refine mix_ok nmT _ c (v + 2) hc (by omega) fun m3 m30 m31 => ?_
  walk_at "am"
  refine ⟨_, r4, ?_⟩
  walk_at "am"
  rw [List.length_map]
  refine ⟨by omega, ⟨_, r4⟩, ?_⟩
  obtain ⟨p0, p1⟩ := fm m3 ((τ.rest b h).length + 1) (by omega)
  obtain ⟨p, hp⟩ := Int.eq_ofNat_of_zero_le p0
  rw [hp]
  rw [hp] at p1
  have hrl : (τ.rest b h).length ≤ τ.nums.length := Nat.le_trans (List.length_filter_le _ _) (w.rlen hh)
  refine ⟨_, r4, by rw [List.length_map]; omega, by omega, by omega, ?_⟩
  have ei : List.take ((p : Int)).toNat ((τ.rest b h).map Va.int) ++ Va.int b :: List.drop ((p : Int)).toNat ((τ.rest b h).map Va.int) = (τ.newr b h p).map Va.int := by
    rw [Int.toNat_natCast]; unfold Tre.newr insAt; simp
  rw [ei]
  obtain ⟨S5, hS5⟩ : ∃ S5, S5 = S4.set S3.length (.lst ((τ.newr b h p).map Va.int)) := ⟨_, rfl⟩
  rw [← hS5]
  have p5 : S5[S3.length]? = some (.lst ((τ.newr b h p).map Va.int)) := by rw [hS5, List.getElem?_set_self (List.getElem?_eq_some_iff.mp r4).1]
  obtain ⟨M5, hM5⟩ : ∃ M5, M5 = M.new (.top 8) S3.length := ⟨_, rfl⟩
  have eM : ∀ a : Tag, a ≠ .top 8 → M5.L a = M.L a := fun a ha => by rw [hM5]; exact new_ne ha
  have e8 : M5.L (.top 8) = S3.length := by rw [hM5]; exact new_eq
  have f5 : Fr (· ≠ .top 8) M S M5 S5 := by
    rw [hM5]
    refine (Fr.new _ hlS).trans (Fr.low fun z o hz => ?_)
    have hlt := (List.getElem?_eq_some_iff.mp hz).1
    rw [hS5, List.getElem?_set_ne (by omega), hS4, hS3, hS2, hS1]
    exact gapp (gapp (gapp (gapp hz)))
  have t5 := t.fr f5 fun a z => (by rintro rfl; cases z)
  have l5 := l.fr f5 fun a z => (by rintro rfl; cases z)
  have lr5 : Pt M5 S5 (.lrows i) (.dct (lrv M5 i τ)) := l5.rows
  have p8 : Pt M5 S5 (.top 8) (.lst ((τ.newr b h p).map Va.int)) := by rw [hM5]; exact .mk new_eq p5 (by simp [Mem.new])
  have hgh : dget (lrv M5 i τ) (.inl h) = some (.loc (M5.L (.lrow i h))) := dget_kd (f := fun n => Va.loc (M5.L (.lrow i n))) hh
  rw [← eM (.tree i) (by simp), ← eM (.lrows i) (by simp), ← eM (.lfacts i) (by simp), ← e8]
  refine ⟨_, lr5.1, ?_⟩
  walk_at "am"
  refine ⟨_, hgh, ne_ints (.inr ⟨_, rfl, p8.1⟩) (.inr ⟨_, rfl, (l5.row h hh).1⟩) ?_⟩
  walk_at "am"
  refine ⟨_, t5.tree.1, _, rfl, ?_⟩
  refine move_ok w t5 k hb h0 hg hh hu hd (by omega) (by omega) fun M6 S6 t6 f6 eL6 => ?_
  have lr6 := f6 _ _ rfl lr5
  obtain ⟨kvf, hF, hf5⟩ := l5.facts
  have lf6 := f6 _ _ rfl hf5
  have q6 := f6 _ _ rfl p8
  have lw6 : ∀ n ∈ τ.nums, M6.L (.lrow i n) = M5.L (.lrow i n) ∧ Pt M6 S6 (.lrow i n) (.lst ((τ.row n).map Va.int)) := fun n hn => f6 _ _ rfl (l5.row n hn)
  rw [← lr6.1, ← lf6.1, ← q6.1]
  walk_at "am"
  rw [← eL6 (.tree i) (by simp)]
  have hgf := hF.get b hb
  have hgl : dget (lrv M5 i τ) (.inl g) = some (.loc (M5.L (.lrow i g))) := dget_kd (f := fun n => Va.loc (M5.L (.lrow i n))) hgn
  obtain ⟨jx, r1, r2, r3⟩ := rem_at hbr
  have hlg : τ.hold b = some g := hg
  refine ⟨_, lf6.2.1, ?_⟩
  walk_at "am"
  refine ⟨_, hgf, ?_⟩
  rw [hg]
  simp only [hv]
  walk_at "am"
  refine ⟨_, lr6.2.1, ?_⟩
  walk_at "am"
  refine ⟨_, hgl, ?_⟩
  rw [← (lw6 g hgn).1]
  have rg6 := (lw6 g hgn).2
  refine ⟨⟨_, .inr ⟨_, rfl, rg6.1⟩⟩, ?_⟩
  walk_at "am"
  refine ⟨τ.row g, jx, rg6.1, r1, r2, ?_⟩
  rw [r3]
  obtain ⟨S7, hS7⟩ : ∃ S7, S7 = S6.set (M6.L (.lrow i g)) (.lst (((τ.row g).erase b).map Va.int)) := ⟨_, rfl⟩
  rw [← hS7]
  have f7 : Fr (· ≠ .lrow i g) M6 S6 M6 S7 := by rw [hS7]; exact Fr.set rg6 _
  have rg7 : Pt M6 S7 (.lrow i g) (.lst (((τ.row g).erase b).map Va.int)) := by rw [hS7]; exact rg6.here
  have q7 := (f7 _ _ (by simp) q6.2).2
  have f8 := Fr.ren (d := .lrow i h) q7
  have rh8 := Pt.ren (d := .lrow i h) q7
  obtain ⟨M8, hM8⟩ : ∃ M8, M8 = M6.new (.lrow i h) (M6.L (.top 8)) := ⟨_, rfl⟩
  rw [← hM8] at f8 rh8
  have e8h : M8.L (.lrow i h) = M6.L (.top 8) := by rw [hM8]; exact new_eq
  have eM8 : ∀ a : Tag, a ≠ .lrow i h → M8.L a = M6.L a := fun a ha => by rw [hM8]; exact new_ne ha
  have lr8 := (f8 _ _ ⟨by simp, by simp⟩ (f7 _ _ (by simp) lr6.2).2).2
  have lf8 := (f8 _ _ ⟨by simp, by simp⟩ (f7 _ _ (by simp) lf6.2).2).2
  have t8 := (t6.fr f7 fun a z => (by rintro rfl; cases z)).fr f8 fun a z => ⟨(by rintro rfl; cases z), (by rintro rfl; cases z)⟩
  rw [← eM8 (.lrows i) (by simp), ← eM8 (.lfacts i) (by simp), ← eM8 (.tree i) (by simp), ← e8h]
  have hk1 : (lrv M5 i τ).length = τ.nums.length := kd_len
  have hk2 := hF.len
  have er : dput (lrv M5 i τ) (.inl h) (.loc (M8.L (.lrow i h))) = lrv M8 i (τ.move b h g p) := by
    show dput (kd τ.nums _) _ _ = kd τ.nums _
    rw [dput_old hh]
    refine kd_congr fun n hn => ?_
    by_cases z : n = h
    · subst z; rw [if_pos rfl]
    · rw [if_neg z, eM8 _ (by simp [z]), (lw6 n hn).1]
  obtain ⟨kv2, hkv2⟩ : ∃ kv2, kv2 = dput kvf (.inl b) (.tup [.int h, .str (sx (τ.nm b))]) := ⟨_, rfl⟩
  have hF2 : Fc (τ.move b h g p) kv2 := by
    rw [hkv2]
    refine hF.set hb rfl rfl ?_ fun n hn => ⟨up_ne hn, rfl⟩
    have e : (τ.move b h g p).hold b = some h := up_eq
    rw [e]; rfl
  refine ⟨_, lr8.1, _, putO_d rfl (by omega), ?_⟩
  rw [er]
  have f9 := Fr.set lr8 (.dct (lrv M8 i (τ.move b h g p)))
  have lr9 := lr8.here (w := .dct (lrv M8 i (τ.move b h g p)))
  obtain ⟨S9, hS9⟩ : ∃ S9, S9 = S7.set (M8.L (.lrows i)) (.dct (lrv M8 i (τ.move b h g p))) := ⟨_, rfl⟩
  rw [← hS9] at f9 lr9 ⊢
  have lf9 := (f9 _ _ (by simp) lf8).2
  refine ⟨_, lf9.1, ?_⟩
  walk_at "am"
  refine ⟨_, hgf, ?_⟩
  walk_at "am"
  refine ⟨_, lf9.1, _, putO_d rfl (by omega), ?_⟩
  rw [← hkv2]
  have f10 := Fr.set lf9 (.dct kv2)
  have lf10 := lf9.here (w := .dct kv2)
  obtain ⟨S10, hS10⟩ : ∃ S10, S10 = S9.set (M8.L (.lfacts i)) (.dct kv2) := ⟨_, rfl⟩
  rw [← hS10] at f10 lf10 ⊢
  have t10 := (t8.fr f9 fun a z => (by rintro rfl; cases z)).fr f10 fun a z => (by rintro rfl; cases z)
  have rh10 := (f10 _ _ (by simp) (f9 _ _ (by simp) rh8).2).2
  have hrow : (τ.move b h g p).row h = τ.newr b h p := up_eq
  rw [if_pos (by simp)]
  refine ⟨_, t10.tree.1, _, rfl, boxes_of_ok t10 _ hh ?_⟩
  rw [hrow]
  refine same_ok _ (τ.newr b h p) ?_ (.inl rfl) (.inr ⟨_, rfl, rh10.1⟩) ?_
  · unfold Tre.newr insAt; simp; omega
  refine fin_keep ?_
  refine hP M8 S10 b h g p hb h0 hg hh hu hd t10 ⟨(f10 _ _ (by simp) lr9).2, fun n hn => ?_, ⟨kv2, hF2, lf10⟩⟩ ?_ ?_
  · by_cases z : n = h
    · subst z; rw [hrow]; exact rh10
    · have e : (τ.move b h g p).row n = if n = g then (τ.row g).erase b else τ.row n := by
        show up (up τ.row g _) h _ n = _
        rw [up_ne z]; rfl
      rw [e]
      by_cases y : n = g
      · subst y; rw [if_pos rfl]
        exact (f10 _ _ (by simp) (f9 _ _ (by simp) (f8 _ _ ⟨by simp, by simp [z]⟩ rg7).2).2).2
      · rw [if_neg y]
        exact (f10 _ _ (by simp) (f9 _ _ (by simp) (f8 _ _ ⟨by simp, by simp [z]⟩ (f7 _ _ (by simp [y]) (lw6 n hn).2).2).2).2).2
  · have G : ∀ {a x : Tag}, a.of i = false ∧ a.lof i = false ∧ a ≠ .top 8 → x.of i = true ∨ x.lof i = true → a ≠ x := fun {a x} z y e => by
      subst e
      rcases y with y | y
      · rw [z.1] at y; cases y
      · rw [z.2.1] at y; cases y
    have dd : decide (i = i) = true := decide_eq_true rfl
    refine (f5.weak fun a z => z.2.2).trans ((f6.weak fun a z => z.1).trans ((f7.weak fun a z => G z (.inr dd)).trans ((f8.weak fun a z => ⟨z.2.2, G z (.inr dd)⟩).trans ((f9.weak fun a z => G z (.inr dd)).trans (f10.weak fun a z => G z (.inr dd))))))
  · intro a a1 a2 a3
    rw [eM8 a a2, eL6 a a1, eM a a3]
end TR
end

section
set_option linter.all false
set_option maxRecDepth 100000
set_option maxHeartbeats 4000000
/-! Trees: marks, words and own rows changed. -/
open PySem
namespace AM
theorem gapp2 {S N : Sto} {k : Nat} {o : Ob} (h : S[k]? = some o) : (S ++ N)[k]? = some o := by
  rw [List.getElem?_append_left (List.getElem?_eq_some_iff.mp h).1]; exact h
theorem dats_strs {ws : List Str} (h : ∀ w ∈ ws, PyData.strOk w = true) : dats (ws.map Va.str) = true := dats_iff.mpr fun x hx => by
  obtain ⟨q, hq, rfl⟩ := List.mem_map.mp hx
  exact h q hq
theorem dep_strs (ws : List Str) : dep (.lst (ws.map Va.str)) ≤ 64 := by
  have h : deps (ws.map Va.str) ≤ 0 := deps_le (n := 0) fun x hx => by
    obtain ⟨q, _, rfl⟩ := List.mem_map.mp hx
    exact Nat.le_refl 0
  exact Nat.le_trans (Nat.succ_le_succ h) (by decide)
theorem eqv_strs : ∀ xs ys : List Str, PyData.eqvAll (pds (xs.map Va.str)) (pds (ys.map Va.str)) = decide (xs = ys)
  | [], [] => by simp [pds, PyData.eqvAll]
  | [], y :: ys => by simp [pds, PyData.eqvAll]
  | x :: xs, [] => by simp [pds, PyData.eqvAll]
  | x :: xs, y :: ys => by
    rw [List.map_cons, List.map_cons]
    simp only [pds, pd, PyData.eqvAll, PyData.eqv, eqv_strs xs ys]
    rw [Bool.eq_iff_iff]; simp
theorem eq_strs {S : Sto} {u v : Va} {xs ys : List Str} {P : PV} (hu : LV S u (xs.map Va.str)) (hv : LV S v (ys.map Va.str)) (hx : ∀ w ∈ xs, PyData.strOk w = true) (hy : ∀ w ∈ ys, PyData.strOk w = true) (h : P (.bl (decide (xs = ys))) S) : wCmp .eq u v S P := by
  simp only [wCmp]
  refine .inr ⟨_, _, hu.dv (dats_strs hx), hv.dv (dats_strs hy), pd_shaped (v := .lst (xs.map Va.str)) (dats_strs hx) (dep_strs _), pd_shaped (v := .lst (ys.map Va.str)) (dats_strs hy) (dep_strs _), ?_⟩
  simp only [pd, PyData.eqv, eqv_strs]
  exact h
theorem ne_strs {S : Sto} {u v : Va} {xs ys : List Str} {P : PV} (hu : LV S u (xs.map Va.str)) (hv : LV S v (ys.map Va.str)) (hx : ∀ w ∈ xs, PyData.strOk w = true) (hy : ∀ w ∈ ys, PyData.strOk w = true) (h : P (.bl (!decide (xs = ys))) S) : wCmp .ne u v S P := by
  simp only [wCmp]
  refine .inr ⟨_, _, hu.dv (dats_strs hx), hv.dv (dats_strs hy), pd_shaped (v := .lst (xs.map Va.str)) (dats_strs hx) (dep_strs _), pd_shaped (v := .lst (ys.map Va.str)) (dats_strs hy) (dep_strs _), ?_⟩
  simp only [pd, PyData.eqv, eqv_strs]
  exact h
theorem eq_dat {S : Sto} {u v : Va} {P : PV} (hu : dat u = true) (hv : dat v = true) (du : dep u ≤ 64) (dv : dep v ≤ 64) (h : P (.bl (PyData.eqv (pd u) (pd v))) S) : wCmp .eq u v S P := by
  simp only [wCmp]
  exact .inr ⟨_, _, dv_pd hu, dv_pd hv, pd_shaped hu du, pd_shaped hv dv, h⟩
end AM
namespace TR
open PySem AM NM
local macro_rules | `(tactic| walk_at "am") => `(tactic| try simp only [W_dpop1, st_set0, st_setS, iteTrue, iteFalse, iteDec, iteNDec, exSome, exBl, W_var, W_int, W_bl, W_non, W_str, W_tup, W_lst, W_bin, W_neg, W_cmp, W_isN, W_notN, W_lrev, W_maxd, W_sortk, wIsb, wNisb, W_chain, W_chain3, W_tst, W_ite, W_call, W_len, W_abs, W_isi, W_sub, WT_val, WT_not, WT_and, WT_or, WA_one, WA_cons, WO_one, WO_cons, WB_val, WB_not, WB_and, WB_or, WBA_one, WBA_cons, WBO_one, WBO_cons, WL_nil, WL_cons, WS_set, WS_ret, WS_retN, WS_pass, WS_brk, WS_cont, WS_drop, WS_ite, WS_raise, WSs_nil, Ss_set, Ss_ret, Ss_retN, Ss_pass, Ss_brk, Ss_cont, Ss_drop, Ss_raise, Ss_ite_ret, Ss_ite_retN, Ss_ite_raise, Ss_ite_cont, Ss_ite_brk, Ss_ite_last, gt_0, gt_S, wAdd_int, wSub_int, wMul_int, wMul_rep, wMul_str, wDiv_int, wMod_int, wPow_int, wAdd_str, wNeg_int, wAbs_int, wLt_int, wLe_int, wGt_int, wGe_int, wEq_int, wNe_int, wEq_bl, wNe_bl, wEq_str, wNe_str, wLen_tup, wLen_lst, tru_bl, tru_int, ty_int_int, ty_int_bool, ty_int_str, ty_int_tuple, ty_int_list, ty_int_dict, ty_bl_int, ty_bl_bool, ty_bl_str, ty_bl_tuple, ty_bl_list, ty_bl_dict, ty_str_int, ty_str_bool, ty_str_str, ty_str_tuple, ty_str_list, ty_str_dict, ty_tup_int, ty_tup_bool, ty_tup_str, ty_tup_tuple, ty_tup_list, ty_tup_dict, ty_lst_int, ty_lst_bool, ty_lst_str, ty_lst_tuple, ty_lst_list, ty_lst_dict, ty_dct_int, ty_dct_bool, ty_dct_str, ty_dct_tuple, ty_dct_list, ty_dct_dict, ty_non, sub_tup0, sub_tup1, sub_tup2, sub_tup3, sub_tup4, sub_tup5, sub_lst0, sub_lst1, sub_lst2, sub_lst3, sub_lst4, sub_lst5, startA, List.map_cons, List.map_nil, List.length_cons, List.length_nil, List.replicate, List.cons_append, List.nil_append, true_and, and_true, ne_eq, isNon, Bool.not_true, Bool.not_false, Bool.true_or, Bool.or_true, Bool.false_or, reduceIte, Nat.reduceAdd, Nat.zero_add, Int.cast_ofNat_Int, Int.reduceEq, Int.reduceLT, Int.reduceLE, Nat.reduceLeDiff, decide_true, decide_false, not_true_eq_false, not_false_eq_true, Nat.reduceSub, Int.reduceToNat, W_slice, W_blt, W_mth, W_comp, WOe_none, WOe_some, WI_seq, WI_keys, WI_items, WI_range1, WI_range2, WI_enum, WI_zip, WI_rev, WI_revr, WI_rangeD, WT0_none, WT0_some, Ss_asg, Ss_setSub, Ss_aug, WS_asg, WS_aug, WS_for, WS_setC, bT_name, bT_tup, bT_lst, bTs_nil, bTs_name, seq_lst, seq_tup, seq_scr, seq_str, seq_loc, en_tup, en_lst, en_scr, en_loc, lst_lst, lst_scr, lst_loc, exInt, exLoc, exLst, exLst1, exLV_lst, exLV_loc, mOk_app, mOk_pop, mOk_ext, mOk_ins, mOk_ind, mOk_join, mOk_indl, m_append, m_pop, m_extend, m_insert, m_join, b_listL, b_listT, b_listS, b_listK, b_tupL, b_tupT, b_tupK, b_max2, b_min2, b_ord, b_str, sl_lst, sl_loc, sl_scr, sl_tupE, sl_strE, cat_lst, cat_loc, cat_tup, wLen_scr, wLen_loc, wLen_str, wSub_scr, wSub_loc, wSub_str, aug_add, aug_sub, tru_lst, tru_tup, tru_non, ty_scr_list, sg_p0, sg_pl, ss_p0, ss_pl, ob_set0, ob_set1, ob_set2, ob_set3, ob_g0, ob_g1, ob_g2, ob_g3, List.append_assoc, List.length_append, List.nil_append, Nat.add_zero, Nat.add_assoc, Int.reduceNeg, wipeA, orc_run, orc_glob, orc_init, orc_isa, orc_gdct, W_isc, W_isE, W_isEt, orc_xk, m_upper, m_partition, m_split, m_endswith, m_find, mOk_upper, mOk_partition, mOk_split, mOk_endswith, mOk_find, b_intB, W_glob, W_gget, W_fld, W_mcall, W_make, W_make0, W_dsp, Ss_setFld, subO_l, subO_d, subO_k, lenO_l, lenO_d, listO_l, listO_d, putO_l, keyV_int, keyV_str, wIn_str, wNotin_str, mapSome, at_0, at_1, at_2, at_3, at_4, at_5, ix_1_0, ix_2_0, ix_2_1, ix_3_0, ix_3_1, ix_3_2, ix_4_0, ix_4_1, ix_4_2, ix_4_3, va_s0, va_s1, va_s2, va_s3])
local macro_rules | `(tactic| walk_at "if") => `(tactic| (try simp only []); rw [Ss_ite]; simp only [W_dpop1, st_set0, st_setS, iteTrue, iteFalse, iteDec, iteNDec, exSome, exBl, W_var, W_int, W_bl, W_non, W_str, W_tup, W_lst, W_bin, W_neg, W_cmp, W_isN, W_notN, W_lrev, W_maxd, W_sortk, wIsb, wNisb, W_chain, W_chain3, W_tst, W_ite, W_call, W_len, W_abs, W_isi, W_sub, WT_val, WT_not, WT_and, WT_or, WA_one, WA_cons, WO_one, WO_cons, WB_val, WB_not, WB_and, WB_or, WBA_one, WBA_cons, WBO_one, WBO_cons, WL_nil, WL_cons, WS_set, WS_ret, WS_retN, WS_pass, WS_brk, WS_cont, WS_drop, WS_ite, WS_raise, WSs_nil, Ss_set, Ss_ret, Ss_retN, Ss_pass, Ss_brk, Ss_cont, Ss_drop, Ss_raise, Ss_ite_ret, Ss_ite_retN, Ss_ite_raise, Ss_ite_cont, Ss_ite_brk, Ss_ite_last, gt_0, gt_S, wAdd_int, wSub_int, wMul_int, wMul_rep, wMul_str, wDiv_int, wMod_int, wPow_int, wAdd_str, wNeg_int, wAbs_int, wLt_int, wLe_int, wGt_int, wGe_int, wEq_int, wNe_int, wEq_bl, wNe_bl, wEq_str, wNe_str, wLen_tup, wLen_lst, tru_bl, tru_int, ty_int_int, ty_int_bool, ty_int_str, ty_int_tuple, ty_int_list, ty_int_dict, ty_bl_int, ty_bl_bool, ty_bl_str, ty_bl_tuple, ty_bl_list, ty_bl_dict, ty_str_int, ty_str_bool, ty_str_str, ty_str_tuple, ty_str_list, ty_str_dict, ty_tup_int, ty_tup_bool, ty_tup_str, ty_tup_tuple, ty_tup_list, ty_tup_dict, ty_lst_int, ty_lst_bool, ty_lst_str, ty_lst_tuple, ty_lst_list, ty_lst_dict, ty_dct_int, ty_dct_bool, ty_dct_str, ty_dct_tuple, ty_dct_list, ty_dct_dict, ty_non, sub_tup0, sub_tup1, sub_tup2, sub_tup3, sub_tup4, sub_tup5, sub_lst0, sub_lst1, sub_lst2, sub_lst3, sub_lst4, sub_lst5, startA, List.map_cons, List.map_nil, List.length_cons, List.length_nil, List.replicate, List.cons_append, List.nil_append, true_and, and_true, ne_eq, isNon, Bool.not_true, Bool.not_false, Bool.true_or, Bool.or_true, Bool.false_or, reduceIte, Nat.reduceAdd, Nat.zero_add, Int.cast_ofNat_Int, Int.reduceEq, Int.reduceLT, Int.reduceLE, Nat.reduceLeDiff, decide_true, decide_false, not_true_eq_false, not_false_eq_true, Nat.reduceSub, Int.reduceToNat, W_slice, W_blt, W_mth, W_comp, WOe_none, WOe_some, WI_seq, WI_keys, WI_items, WI_range1, WI_range2, WI_enum, WI_zip, WI_rev, WI_revr, WI_rangeD, WT0_none, WT0_some, Ss_asg, Ss_setSub, Ss_aug, WS_asg, WS_aug, WS_for, WS_setC, bT_name, bT_tup, bT_lst, bTs_nil, bTs_name, seq_lst, seq_tup, seq_scr, seq_str, seq_loc, en_tup, en_lst, en_scr, en_loc, lst_lst, lst_scr, lst_loc, exInt, exLoc, exLst, exLst1, exLV_lst, exLV_loc, mOk_app, mOk_pop, mOk_ext, mOk_ins, mOk_ind, mOk_join, mOk_indl, m_append, m_pop, m_extend, m_insert, m_join, b_listL, b_listT, b_listS, b_listK, b_tupL, b_tupT, b_tupK, b_max2, b_min2, b_ord, b_str, sl_lst, sl_loc, sl_scr, sl_tupE, sl_strE, cat_lst, cat_loc, cat_tup, wLen_scr, wLen_loc, wLen_str, wSub_scr, wSub_loc, wSub_str, aug_add, aug_sub, tru_lst, tru_tup, tru_non, ty_scr_list, sg_p0, sg_pl, ss_p0, ss_pl, ob_set0, ob_set1, ob_set2, ob_set3, ob_g0, ob_g1, ob_g2, ob_g3, List.append_assoc, List.length_append, List.nil_append, Nat.add_zero, Nat.add_assoc, Int.reduceNeg, wipeA, orc_run, orc_glob, orc_init, orc_isa, orc_gdct, W_isc, W_isE, W_isEt, orc_xk, m_upper, m_partition, m_split, m_endswith, m_find, mOk_upper, mOk_partition, mOk_split, mOk_endswith, mOk_find, b_intB, W_glob, W_gget, W_fld, W_mcall, W_make, W_make0, W_dsp, Ss_setFld, subO_l, subO_d, subO_k, lenO_l, lenO_d, listO_l, listO_d, putO_l, keyV_int, keyV_str, wIn_str, wNotin_str, mapSome, at_0, at_1, at_2, at_3, at_4, at_5, ix_1_0, ix_2_0, ix_2_1, ix_3_0, ix_3_1, ix_3_2, ix_4_0, ix_4_1, ix_4_2, ix_4_3, va_s0, va_s1, va_s2, va_s3])
def mkd (ws : List Str) : List (L2.Key × Va) := ws.map fun w => (.inr w, .bl true)
theorem mkd_in {w : Str} {ws : List Str} : (dget (mkd ws) (.inr w)).isSome = decide (w ∈ ws) := by
  unfold dget mkd
  rw [Bool.eq_iff_iff]
  simp
theorem mkd_put {w : Str} {ws : List Str} (h : w ∉ ws) : dput (mkd ws) (.inr w) (.bl true) = mkd (ws ++ [w]) := by
  unfold dput mkd
  rw [if_neg (by simpa using h), List.map_append]; rfl
theorem mkd_get {w : Str} : ∀ {ws : List Str}, w ∈ ws → dget (mkd ws) (.inr w) = some (.bl true)
  | [], h => by cases h
  | v :: ws, h => by
    show dget ((.inr v, .bl true) :: mkd ws) (.inr w) = _
    rw [dget_cons]
    by_cases e : v = w
    · rw [if_pos (by rw [e])]
    · rw [if_neg (fun z => e (Sum.inr.inj z))]
      rcases List.mem_cons.mp h with z | z
      · exact absurd z.symm e
      · exact mkd_get z
theorem mkd_drop {w : Str} {ws : List Str} : ddrop (mkd ws) (.inr w) = mkd (ws.filter fun v => decide (v ≠ w)) := by
  induction ws with
  | nil => rfl
  | cons v ws ih =>
    unfold ddrop mkd at ih ⊢
    rw [List.map_cons, List.filter_cons, List.filter_cons]
    by_cases e : v = w
    · subst e; simpa using ih
    · simp [e] at ih ⊢; exact ih
theorem up_same {α : Type} {f : Int → α} {n : Int} : up f n (f n) = f := by
  funext m
  by_cases e : m = n
  · subst e; exact up_eq
  · exact up_ne e
section
variable {M : Mem} {S : Sto} {i : Nat} {τ : Tre} (t : TreeAt M S i τ) {n : Int} {P : PV} {E : PX} {w : Str}
include t
theorem TreeAt.setmarks (hn : n ∈ τ.nums) (ws : List Str) : TreeAt M (S.set (M.L (.marks i n)) (.dct (mkd ws))) i { τ with marks := up τ.marks n ws } := by
  have B := t.box n hn
  have f := Fr.set B.marks (.dct (mkd ws))
  refine ⟨(f _ _ (by simp) t.tree).2, (f _ _ (by simp) t.stand).2, fun m hm => ?_⟩
  by_cases e : m = n
  · subst e
    refine ⟨(f _ _ (by simp) B.bx).2, (f _ _ (by simp) B.row).2, ?_, (f _ _ (by simp) B.words).2⟩
    show Pt _ _ _ (.dct (mkd (up τ.marks m ws m)))
    rw [up_eq]; exact B.marks.here
  · exact (t.box m hm).fr f (by simp) (by simp) (by simp [e]) (by simp) rfl rfl rfl rfl (up_ne e) rfl rfl
theorem mark_ok (k : Nat) (hn : n ∈ τ.nums) {cs : List Nat} (hc : Nm cs) (hm : (τ.marks n).length < 64)
    (h : ∀ S', TreeAt M S' i { τ with marks := up τ.marks n (if sx cs ∈ τ.marks n then τ.marks n else τ.marks n ++ [sx cs]) } → Fr (fun a => a.of i = false) M S M S' → P (.bl (decide (sx cs ∉ τ.marks n))) S') : call Hd.T (k + 2) "Tree.mark" [.loc (M.L (.tree i)), .int n, .str (sx cs)] S P E := by
  refine call_def (d := Hd.f_Tree_mark) rfl rfl ?_
  unfold Hd.f_Tree_mark
  walk_at "am"
  refine ⟨_, t.tree.1, _, rfl, found_ok t k hn ?_⟩
  refine isname_ok _ cs hc ?_
  walk_at "am"
  refine ⟨_, (t.box n hn).bx.1, _, rfl, ?_⟩
  refine ⟨_, (t.box n hn).marks.1, .inr (sx cs), rfl, ?_⟩
  have ei : (dget (mkd (τ.marks n)) (.inr (sx cs))).isSome = decide (sx cs ∈ τ.marks n) := mkd_in
  show ∃ b, tru S (.bl (dget (mkd (τ.marks n)) (.inr (sx cs))).isSome) = some b ∧ _
  rw [ei]
  refine ⟨_, rfl, ?_⟩
  by_cases e : sx cs ∈ τ.marks n
  · rw [if_pos (decide_eq_true e)]
    refine fin_keep ?_
    have := h S (by rw [if_pos e, up_same]; exact t) .refl
    rw [decide_eq_false (fun z => z e)] at this
    exact this
  rw [if_neg (by simpa using e)]
  have el : (mkd (τ.marks n)).length = (τ.marks n).length := List.length_map _
  refine ⟨_, (t.box n hn).bx.1, _, rfl, _, rfl, _, (t.box n hn).marks.1, _, putO_d (kvs := mkd (τ.marks n)) rfl (by omega), ?_⟩
  rw [mkd_put e]
  refine fin_keep ?_
  have := h _ (by rw [if_neg e]; exact t.setmarks hn _) ((Fr.set (t.box n hn).marks _).weak fun a z => (by rintro rfl; simp [Tag.of] at z))
  rw [decide_eq_true e] at this
  exact this
/-- other words, at another place -/
theorem TreeAt.newwords {S1 : Sto} (h1 : ∀ (k : Nat) (o : Ob), S[k]? = some o → S1[k]? = some o) {l : Nat} (hl : S.length ≤ l) (hn : n ∈ τ.nums) {ws : List Str} (hx : S1[l]? = some (.lst (ws.map Va.str))) :
    TreeAt (M.new (.words i n) l) (S1.set (M.L (.bx i n)) (.ins "Box" (boxF (M.new (.words i n) l) i { τ with words := up τ.words n ws } n))) i { τ with words := up τ.words n ws } := by
  have low : ∀ {a : Tag} {o : Ob}, Pt M S a o → Pt M S1 a o := fun h => ⟨h1 _ _ h.1, h.2⟩
  have B0 := t.box n hn
  have f := Fr.set (low B0.bx) (.ins "Box" (boxF (M.new (.words i n) l) i { τ with words := up τ.words n ws } n))
  have nw : ∀ {a : Tag} {o : Ob}, Pt M S a o → a ≠ .words i n → a ≠ .bx i n → (M.new (.words i n) l).L a = M.L a ∧ Pt (M.new (.words i n) l) (S1.set (M.L (.bx i n)) (.ins "Box" (boxF (M.new (.words i n) l) i { τ with words := up τ.words n ws } n))) a o := fun h0 h1 h2 => h0.newer hl (f _ _ h2 (low h0)).2 h1
  have hlt := B0.bx.lt
  refine ⟨?_, ?_, fun m hm => ?_⟩
  · rw [(nw t.stand (by simp) (by simp)).1]
    exact (nw t.tree (by simp) (by simp)).2
  · have e : (kd τ.nums fun m => Va.loc ((M.new (.words i n) l).L (.bx i m))) = kd τ.nums fun m => .loc (M.L (.bx i m)) := kd_congr fun m _ => by rw [new_ne (by simp)]
    show Pt _ _ _ (.dct (kd τ.nums _))
    rw [e]
    exact (nw t.stand (by simp) (by simp)).2
  · have C := t.box m hm
    by_cases e : m = n
    · subst e
      refine ⟨?_, (nw C.row (by simp) (by simp)).2, (nw C.marks (by simp) (by simp)).2, ?_⟩
      · exact (B0.bx.newer hl (low B0.bx).here (c := .words i m) (by simp) (o := .ins "Box" (boxF (M.new (.words i m) l) i { τ with words := up τ.words m ws } m))).2
      · show Pt _ _ _ (.lst ((up τ.words m ws m).map Va.str))
        rw [up_eq]
        refine .mk new_eq ?_ (by simp [Mem.new])
        rw [List.getElem?_set_ne (by omega)]; exact hx
    · obtain ⟨l1, p1⟩ := nw C.bx (by simp) (by simp [e])
      obtain ⟨l2, p2⟩ := nw C.row (by simp) (by simp)
      obtain ⟨l3, p3⟩ := nw C.marks (by simp) (by simp)
      obtain ⟨l4, p4⟩ := nw C.words (by simp [e]) (by simp)
      refine ⟨?_, p2, p3, ?_⟩
      · have : boxF (M.new (.words i n) l) i { τ with words := up τ.words n ws } m = boxF M i τ m := by
          unfold boxF
          rw [l2, l3, l4]
        rw [this]; exact p1
      · show Pt _ _ _ (.lst ((up τ.words n ws m).map Va.str))
        rw [up_ne e]; exact p4
theorem write_ok (k : Nat) (hn : n ∈ τ.nums) {ws : List Str} {l : Nat} (hw : S[l]? = some (.lst (ws.map Va.str))) (ho : ∀ w ∈ ws, PyData.strOk w = true) (ho' : ∀ w ∈ τ.words n, PyData.strOk w = true)
    (h : ∀ M' S', TreeAt M' S' i { τ with words := up τ.words n ws } → Fr (fun a => a.of i = false) M S M' S' → (∀ a, a ≠ .words i n → M'.L a = M.L a) → S'[l]? = some (.lst (ws.map Va.str)) → P (.bl (!decide (τ.words n = ws))) S') : call Hd.T (k + 2) "Tree.write" [.loc (M.L (.tree i)), .int n, .loc l] S P E := by
  refine call_def (d := Hd.f_Tree_write) rfl rfl ?_
  unfold Hd.f_Tree_write
  walk_at "am"
  refine ⟨_, t.tree.1, _, rfl, found_ok t k hn ?_⟩
  walk_at "am"
  have B := t.box n hn
  refine ⟨_, B.bx.1, _, rfl, eq_strs (.inr ⟨_, rfl, B.words.1⟩) (.inr ⟨_, rfl, hw⟩) ho' ho ?_⟩
  walk_at "am"
  by_cases e : τ.words n = ws
  · rw [if_pos e]
    refine fin_keep ?_
    have := h M S (by rw [← e, up_same]; exact t) .refl (fun _ _ => rfl) hw
    rw [decide_eq_true e] at this
    exact this
  rw [if_neg e]
  refine ⟨_, hw, ?_⟩
  walk_at "am"
  have tn := t.newwords (S1 := S ++ [.lst (ws.map Va.str)]) (fun k o h => gapp2 h) (Nat.le_refl _) hn (ws := ws) (by rw [sg_p0]; rfl)
  have f := (((Fr.app (D := fun a => a.of i = false) (N := [.lst (ws.map Va.str)])).trans ((Fr.set B.bx.app (.ins "Box" (boxF (M.new (.words i n) S.length) i { τ with words := up τ.words n ws } n))).weak fun a z => (by rintro rfl; simp [Tag.of] at z))).thenNew (c := .words i n) (Nat.le_refl _)).weak fun a z => ⟨z, (by rintro rfl; simp [Tag.of] at z)⟩
  have nl : M.L (.bx i n) ≠ l := fun z => by rw [← z, B.bx.1] at hw; cases hw
  refine ⟨_, B.bx.app.1, .ins "Box" (boxF (M.new (.words i n) S.length) i { τ with words := up τ.words n ws } n), ?_, fin_keep ?_⟩
  · unfold boxF
    rw [new_eq, new_ne (by simp), new_ne (by simp)]
    rfl
  · have := h _ _ tn f (fun a ha => new_ne ha) (by rw [List.getElem?_set_ne nl]; exact gapp2 hw)
    rw [decide_eq_false e] at this
    exact this
end
end TR
end

section
set_option linter.all false
set_option maxRecDepth 100000
set_option maxHeartbeats 4000000
/-! Law k13: gathered, the functions handed over. -/
open PySem
namespace AM
/-- a comprehension whose parts may lay things -/
theorem cpL_st {C : Orc} (hC : OrcMono C) {own : List Nat} {elt : Ex} {tg : Tg} {cond : Tes0} {G : Sto → Prop} {d : Nat} {Γ : Env} {S0 : Sto} {P : PV} {xs : List Va} (I : Nat → Sto → Prop) (h0 : I 0 S0)
    (h : ∀ i x S, xs[i]? = some x → I i S → ∃ Γ1, bindT S tg x (wipeA Γ own) = some Γ1 ∧ WT0 C cond Γ1 S fun b S2 => if b = true then W C elt Γ1 S2 (fun v S3 => ∃ acc, S3[d]? = some (.lst acc) ∧ acc.length < 1000000 ∧ G (S3.set d (.lst (acc ++ [v]))) ∧ I (i + 1) (S3.set d (.lst (acc ++ [v])))) (fun _ _ => False) else G S2 ∧ I (i + 1) S2)
    (hP : ∀ S, I xs.length S → P (.loc d) S) : cpB C own elt tg cond G d P xs Γ S0 := by
  have key : ∀ (m i : Nat) (S : Sto), i + m = xs.length → I i S → cpL (fun x S => bindT S tg x (wipeA Γ own)) (fun Γ S Q => WT0 C cond Γ S Q) (fun Γ S Q => W C elt Γ S Q (fun _ _ => False)) G d P (xs.drop i) S := by
    intro m
    induction m with
    | zero =>
      intro i S hi hI
      rw [List.drop_eq_nil_of_le (by omega)]
      exact hP S (by rw [← hi]; exact hI)
    | succ m ih =>
      intro i S hi hI
      have hlt : i < xs.length := by omega
      rw [List.drop_eq_getElem_cons hlt]
      obtain ⟨Γ1, e1, q⟩ := h i xs[i] S (List.getElem?_eq_getElem hlt) hI
      refine ⟨Γ1, e1, WT0_mono hC cond Γ1 S _ _ (fun b S2 z => ?_) q⟩
      cases b with
      | true => exact W_mono hC elt Γ1 S2 _ _ _ _ (fun v S3 ⟨acc, a1, a2, a3, a4⟩ => ⟨acc, a1, a2, a3, ih (i + 1) _ (by omega) a4⟩) (fun _ _ z => z) z
      | false => exact ⟨z.1, ih (i + 1) _ (by omega) z.2⟩
  exact key xs.length 0 S0 (by omega) h0
theorem any_strs (xs : List Str) (x : Str) : ((pds (xs.map Va.str)).any fun z => PyData.eqv z (.str x)) = decide (x ∈ xs) := by
  induction xs with
  | nil => simp [pds]
  | cons y ys ih =>
    show (PyData.eqv (.str y) (.str x) || (pds (ys.map Va.str)).any fun z => PyData.eqv z (.str x)) = _
    rw [ih]
    have e : PyData.eqv (.str y) (.str x) = decide (y = x) := rfl
    rw [e]
    by_cases h : y = x
    · subst h; simp
    · by_cases h2 : x ∈ ys
      · rw [decide_eq_true h2, decide_eq_true (List.mem_cons_of_mem _ h2), Bool.or_true]
      · have h3 : x ∉ y :: ys := fun z => (List.mem_cons.mp z).elim (fun e => h e.symm) h2
        rw [decide_eq_false h, decide_eq_false h2, decide_eq_false h3]; rfl
end AM
namespace TR
open PySem AM NM
local macro_rules | `(tactic| walk_at "am") => `(tactic| try simp only [W_callv, W_callc, W_evens, W_dpop1, m_remove, st_set0, st_setS, iteTrue, iteFalse, iteDec, iteNDec, exSome, exBl, W_var, W_int, W_bl, W_non, W_str, W_tup, W_lst, W_bin, W_neg, W_cmp, W_isN, W_notN, W_lrev, W_maxd, W_sortk, wIsb, wNisb, W_chain, W_chain3, W_tst, W_ite, W_call, W_len, W_abs, W_isi, W_sub, WT_val, WT_not, WT_and, WT_or, WA_one, WA_cons, WO_one, WO_cons, WB_val, WB_not, WB_and, WB_or, WBA_one, WBA_cons, WBO_one, WBO_cons, WL_nil, WL_cons, WS_set, WS_ret, WS_retN, WS_pass, WS_brk, WS_cont, WS_drop, WS_ite, WS_raise, WSs_nil, Ss_set, Ss_ret, Ss_retN, Ss_pass, Ss_brk, Ss_cont, Ss_drop, Ss_raise, Ss_ite_ret, Ss_ite_retN, Ss_ite_raise, Ss_ite_cont, Ss_ite_brk, Ss_ite_last, gt_0, gt_S, wAdd_int, wSub_int, wMul_int, wMul_rep, wMul_str, wDiv_int, wMod_int, wPow_int, wAdd_str, wNeg_int, wAbs_int, wLt_int, wLe_int, wGt_int, wGe_int, wEq_int, wNe_int, wEq_bl, wNe_bl, wEq_str, wNe_str, wLen_tup, wLen_lst, tru_bl, tru_int, ty_int_int, ty_int_bool, ty_int_str, ty_int_tuple, ty_int_list, ty_int_dict, ty_bl_int, ty_bl_bool, ty_bl_str, ty_bl_tuple, ty_bl_list, ty_bl_dict, ty_str_int, ty_str_bool, ty_str_str, ty_str_tuple, ty_str_list, ty_str_dict, ty_tup_int, ty_tup_bool, ty_tup_str, ty_tup_tuple, ty_tup_list, ty_tup_dict, ty_lst_int, ty_lst_bool, ty_lst_str, ty_lst_tuple, ty_lst_list, ty_lst_dict, ty_dct_int, ty_dct_bool, ty_dct_str, ty_dct_tuple, ty_dct_list, ty_dct_dict, ty_non, sub_tup0, sub_tup1, sub_tup2, sub_tup3, sub_tup4, sub_tup5, sub_lst0, sub_lst1, sub_lst2, sub_lst3, sub_lst4, sub_lst5, startA, List.map_cons, List.map_nil, List.length_cons, List.length_nil, List.replicate, List.cons_append, List.nil_append, true_and, and_true, ne_eq, isNon, Bool.not_true, Bool.not_false, Bool.true_or, Bool.or_true, Bool.false_or, reduceIte, Nat.reduceAdd, Nat.zero_add, Int.cast_ofNat_Int, Int.reduceEq, Int.reduceLT, Int.reduceLE, Nat.reduceLeDiff, decide_true, decide_false, not_true_eq_false, not_false_eq_true, Nat.reduceSub, Int.reduceToNat, W_slice, W_blt, W_mth, W_comp, WOe_none, WOe_some, WI_seq, WI_keys, WI_items, WI_range1, WI_range2, WI_enum, WI_zip, WI_rev, WI_revr, WI_rangeD, WT0_none, WT0_some, Ss_asg, Ss_setSub, Ss_aug, WS_asg, WS_aug, WS_for, WS_setC, bT_name, bT_tup, bT_lst, bTs_nil, bTs_name, seq_lst, seq_tup, seq_scr, seq_str, seq_loc, en_tup, en_lst, en_scr, en_loc, lst_lst, lst_scr, lst_loc, exInt, exLoc, exLst, exLst1, exLV_lst, exLV_loc, mOk_app, mOk_pop, mOk_ext, mOk_ins, mOk_ind, mOk_join, mOk_indl, m_append, m_pop, m_extend, m_insert, m_join, b_listL, b_listT, b_listS, b_listK, b_tupL, b_tupT, b_tupK, b_max2, b_min2, b_ord, b_str, sl_lst, sl_loc, sl_scr, sl_tupE, sl_strE, cat_lst, cat_loc, cat_tup, wLen_scr, wLen_loc, wLen_str, wSub_scr, wSub_loc, wSub_str, aug_add, aug_sub, tru_lst, tru_tup, tru_non, ty_scr_list, sg_p0, sg_pl, ss_p0, ss_pl, ob_set0, ob_set1, ob_set2, ob_set3, ob_g0, ob_g1, ob_g2, ob_g3, List.append_assoc, List.length_append, List.nil_append, Nat.add_zero, Nat.add_assoc, Int.reduceNeg, wipeA, orc_run, orc_glob, orc_init, orc_isa, orc_gdct, W_isc, W_isE, W_isEt, orc_xk, m_upper, m_partition, m_split, m_endswith, m_find, mOk_upper, mOk_partition, mOk_split, mOk_endswith, mOk_find, b_intB, W_glob, W_gget, W_fld, W_mcall, W_make, W_make0, W_dsp, Ss_setFld, subO_l, subO_d, subO_k, lenO_l, lenO_d, listO_l, listO_d, putO_l, keyV_int, keyV_str, wIn_str, wNotin_str, mapSome, at_0, at_1, at_2, at_3, at_4, at_5, ix_1_0, ix_2_0, ix_2_1, ix_3_0, ix_3_1, ix_3_2, ix_4_0, ix_4_1, ix_4_2, ix_4_3, va_s0, va_s1, va_s2, va_s3])
local macro_rules | `(tactic| walk_at "if") => `(tactic| (try simp only []); rw [Ss_ite]; simp only [W_callv, W_callc, W_evens, W_dpop1, m_remove, st_set0, st_setS, iteTrue, iteFalse, iteDec, iteNDec, exSome, exBl, W_var, W_int, W_bl, W_non, W_str, W_tup, W_lst, W_bin, W_neg, W_cmp, W_isN, W_notN, W_lrev, W_maxd, W_sortk, wIsb, wNisb, W_chain, W_chain3, W_tst, W_ite, W_call, W_len, W_abs, W_isi, W_sub, WT_val, WT_not, WT_and, WT_or, WA_one, WA_cons, WO_one, WO_cons, WB_val, WB_not, WB_and, WB_or, WBA_one, WBA_cons, WBO_one, WBO_cons, WL_nil, WL_cons, WS_set, WS_ret, WS_retN, WS_pass, WS_brk, WS_cont, WS_drop, WS_ite, WS_raise, WSs_nil, Ss_set, Ss_ret, Ss_retN, Ss_pass, Ss_brk, Ss_cont, Ss_drop, Ss_raise, Ss_ite_ret, Ss_ite_retN, Ss_ite_raise, Ss_ite_cont, Ss_ite_brk, Ss_ite_last, gt_0, gt_S, wAdd_int, wSub_int, wMul_int, wMul_rep, wMul_str, wDiv_int, wMod_int, wPow_int, wAdd_str, wNeg_int, wAbs_int, wLt_int, wLe_int, wGt_int, wGe_int, wEq_int, wNe_int, wEq_bl, wNe_bl, wEq_str, wNe_str, wLen_tup, wLen_lst, tru_bl, tru_int, ty_int_int, ty_int_bool, ty_int_str, ty_int_tuple, ty_int_list, ty_int_dict, ty_bl_int, ty_bl_bool, ty_bl_str, ty_bl_tuple, ty_bl_list, ty_bl_dict, ty_str_int, ty_str_bool, ty_str_str, ty_str_tuple, ty_str_list, ty_str_dict, ty_tup_int, ty_tup_bool, ty_tup_str, ty_tup_tuple, ty_tup_list, ty_tup_dict, ty_lst_int, ty_lst_bool, ty_lst_str, ty_lst_tuple, ty_lst_list, ty_lst_dict, ty_dct_int, ty_dct_bool, ty_dct_str, ty_dct_tuple, ty_dct_list, ty_dct_dict, ty_non, sub_tup0, sub_tup1, sub_tup2, sub_tup3, sub_tup4, sub_tup5, sub_lst0, sub_lst1, sub_lst2, sub_lst3, sub_lst4, sub_lst5, startA, List.map_cons, List.map_nil, List.length_cons, List.length_nil, List.replicate, List.cons_append, List.nil_append, true_and, and_true, ne_eq, isNon, Bool.not_true, Bool.not_false, Bool.true_or, Bool.or_true, Bool.false_or, reduceIte, Nat.reduceAdd, Nat.zero_add, Int.cast_ofNat_Int, Int.reduceEq, Int.reduceLT, Int.reduceLE, Nat.reduceLeDiff, decide_true, decide_false, not_true_eq_false, not_false_eq_true, Nat.reduceSub, Int.reduceToNat, W_slice, W_blt, W_mth, W_comp, WOe_none, WOe_some, WI_seq, WI_keys, WI_items, WI_range1, WI_range2, WI_enum, WI_zip, WI_rev, WI_revr, WI_rangeD, WT0_none, WT0_some, Ss_asg, Ss_setSub, Ss_aug, WS_asg, WS_aug, WS_for, WS_setC, bT_name, bT_tup, bT_lst, bTs_nil, bTs_name, seq_lst, seq_tup, seq_scr, seq_str, seq_loc, en_tup, en_lst, en_scr, en_loc, lst_lst, lst_scr, lst_loc, exInt, exLoc, exLst, exLst1, exLV_lst, exLV_loc, mOk_app, mOk_pop, mOk_ext, mOk_ins, mOk_ind, mOk_join, mOk_indl, m_append, m_pop, m_extend, m_insert, m_join, b_listL, b_listT, b_listS, b_listK, b_tupL, b_tupT, b_tupK, b_max2, b_min2, b_ord, b_str, sl_lst, sl_loc, sl_scr, sl_tupE, sl_strE, cat_lst, cat_loc, cat_tup, wLen_scr, wLen_loc, wLen_str, wSub_scr, wSub_loc, wSub_str, aug_add, aug_sub, tru_lst, tru_tup, tru_non, ty_scr_list, sg_p0, sg_pl, ss_p0, ss_pl, ob_set0, ob_set1, ob_set2, ob_set3, ob_g0, ob_g1, ob_g2, ob_g3, List.append_assoc, List.length_append, List.nil_append, Nat.add_zero, Nat.add_assoc, Int.reduceNeg, wipeA, orc_run, orc_glob, orc_init, orc_isa, orc_gdct, W_isc, W_isE, W_isEt, orc_xk, m_upper, m_partition, m_split, m_endswith, m_find, mOk_upper, mOk_partition, mOk_split, mOk_endswith, mOk_find, b_intB, W_glob, W_gget, W_fld, W_mcall, W_make, W_make0, W_dsp, Ss_setFld, subO_l, subO_d, subO_k, lenO_l, lenO_d, listO_l, listO_d, putO_l, keyV_int, keyV_str, wIn_str, wNotin_str, mapSome, at_0, at_1, at_2, at_3, at_4, at_5, ix_1_0, ix_2_0, ix_2_1, ix_3_0, ix_3_1, ix_3_2, ix_4_0, ix_4_1, ix_4_2, ix_4_3, va_s0, va_s1, va_s2, va_s3])
theorem evens_map : ∀ us : List Int, evensL (us.map Va.int) = (evensL us).map Va.int
  | [] => rfl
  | [_] => rfl
  | x :: y :: r => by
    show Va.int x :: evensL (r.map Va.int) = Va.int x :: (evensL r).map Va.int
    rw [evens_map r]
theorem take_fil {f : Int → Bool} {xs : List Int} {j : Nat} {n : Int} (h : xs[j]? = some n) : (xs.take (j + 1)).filter f = (xs.take j).filter f ++ (if f n = true then [n] else []) := by
  rw [List.take_succ, h]
  simp only [Option.toList_some, List.filter_append, List.filter_cons, List.filter_nil]
section
variable {M : Mem} {S : Sto} {i : Nat} {τ : Tre} (w : WF τ) (t : TreeAt M S i τ) {n : Int} {P : PV} {E : PX}
include w t
theorem gathered_ok (k : Nat) (hn : n ∈ τ.nums) (hl : τ.nums.length ≤ 1000) {z : Clo} {ws : List Va} (f : Int → Bool)
    (hf : ∀ m ∈ τ.und n, ∀ (N : Sto) (P : PV) (E : PX), P (.bl (f m)) (S ++ N) → call (Hd.T.add z) (k + 3) z.id (.int m :: ws) (S ++ N) P E)
    (h : P (.lst (((τ.und n).filter f).map Va.int)) S) : call (Hd.T.add z) (k + 4) "gathered" [.loc (M.L (.tree i)), .int n, .fnv z ws] S P E := by
  refine call_def (d := Hd.f_gathered) rfl rfl ?_
  unfold Hd.f_gathered
  walk_at "am"
  rw [WSs_cons]
  walk_at "am"
  have t1 : TreeAt M (S ++ [.lst [], .lst [.int n]]) i τ := t.app
  refine call_add (beneath_ok w t1 k hn hl fun N => ?_)
  have e1 : τ.und n = n :: (τ.und n).tail := by
    obtain ⟨zs, ez, _⟩ := Pre.next (xs := []) (w.und hn)
    rw [ez]; rfl
  have hul := w.und_len hn
  have eL : (S ++ [Ob.lst [], .lst [.int n]]).length = S.length + 2 := by simp
  rw [eL, List.append_assoc]
  have g1 : (S ++ ([Ob.lst [], .lst [.int n]] ++ .lst ((τ.und n).tail.map Va.int) :: N))[S.length + 1]? = some (.lst [.int n]) := by rw [sg_pl]; rfl
  have g2 : (S ++ ([Ob.lst [], .lst [.int n]] ++ .lst ((τ.und n).tail.map Va.int) :: N))[S.length + 2]? = some (.lst ((τ.und n).tail.map Va.int)) := by rw [sg_pl]; rfl
  refine ⟨_, g1, _, .inr ⟨_, rfl, g2⟩, by simp; omega, ?_⟩
  have eu : [Va.int n] ++ (τ.und n).tail.map Va.int = (τ.und n).map Va.int := by
    conv => rhs; rw [e1]
    rfl
  rw [eu]
  obtain ⟨N1, hN1⟩ : ∃ N1, N1 = .lst [.int n] :: .lst ((τ.und n).tail.map Va.int) :: (N ++ [.lst ((τ.und n).map Va.int)]) := ⟨_, rfl⟩
  have eS : S ++ ([Ob.lst [], .lst [.int n]] ++ .lst ((τ.und n).tail.map Va.int) :: N) ++ [.lst ((τ.und n).map Va.int)] = S ++ (.lst [] :: N1) := by rw [hN1]; simp
  have eP : (S ++ ([Ob.lst [], .lst [.int n]] ++ .lst ((τ.und n).tail.map Va.int) :: N)).length = S.length + (N.length + 3) := by simp
  rw [eS, eP]
  have g3 : N1[N.length + 2]? = some (.lst ((τ.und n).map Va.int)) := by
    have q : (N ++ [Ob.lst ((τ.und n).map Va.int)])[N.length]? = some (.lst ((τ.und n).map Va.int)) := by rw [List.getElem?_append_right (Nat.le_refl _)]; simp
    rw [hN1, List.getElem?_cons_succ, List.getElem?_cons_succ]
    exact q
  obtain ⟨p, hp⟩ : ∃ p, p = N.length + 2 := ⟨_, rfl⟩
  rw [← hp] at g3
  rw [show N.length + 3 = p + 1 from by omega]
  have gw : ∀ (a : List Va) (N2 : Sto), N2[p]? = some (.lst ((τ.und n).map Va.int)) → (S ++ (.lst a :: N2))[S.length + (p + 1)]? = some (.lst ((τ.und n).map Va.int)) := fun a N2 q => by rw [sg_pl, List.getElem?_cons_succ]; exact q
  have gc : ∀ (a : List Va) (N2 : Sto), N2[p]? = some (.lst ((τ.und n).map Va.int)) → (Ob.lst a :: N2)[p + 1]? = some (.lst ((τ.und n).map Va.int)) := fun a N2 q => by rw [List.getElem?_cons_succ]; exact q
  refine for_ix (call_mono _ _) (fun j Γ S' => ∃ (N2 : Sto) (o : Option Va), S' = S ++ (.lst ((((τ.und n).take j).filter f).map Va.int) :: N2) ∧ N2[p]? = some (.lst ((τ.und n).map Va.int)) ∧ Γ = [some (.loc (M.L (.tree i))), some (.int n), some (.fnv z ws), some (.loc S.length), o]) ⟨N1, none, rfl, g3, rfl⟩ ?_ ?_
  · rintro j x Γ S' hx ⟨N2, o, rfl, g, rfl⟩
    obtain ⟨m, hm', rfl⟩ := Option.map_eq_some_iff.mp (by rw [List.getElem?_map] at hx; exact hx)
    have hm := List.mem_of_getElem? hm'
    refine ⟨_, rfl, ?_⟩
    walk_at "am"
    refine ⟨z, ws, rfl, List.mem_cons_self, ?_⟩
    refine hf m hm _ _ _ ?_
    refine ⟨_, rfl, ?_⟩
    cases e : f m with
    | true =>
      walk_at "am"
      have hlen : ((τ.und n).take j).length ≤ j := List.length_take_le _ _
      have hfl := List.length_filter_le f ((τ.und n).take j)
      have hju : j < (τ.und n).length := lt_of_get hm'
      refine ⟨by rw [List.length_map]; omega, gc _ _ g, N2, _, ?_, g, rfl⟩
      rw [take_fil hm', if_pos e, List.map_append]
      rfl
    | false =>
      walk_at "am"
      refine ⟨gc _ _ g, N2, _, ?_, g, rfl⟩
      rw [take_fil hm', if_neg (by rw [e]; decide), List.append_nil]
  · rintro Γ S' ⟨N2, o, rfl, g, rfl⟩
    walk_at "am"
    rw [List.length_map, List.take_length]
    exact fin_lst0 rfl (pls_iff.mpr fun x hx => by obtain ⟨y, _, rfl⟩ := List.mem_map.mp hx; rfl) h
theorem beneath_no (k : Nat) (hn : n ∉ τ.nums) (hE : E "NoBox" S) : call Hd.T (k + 3) "beneath" [.loc (M.L (.tree i)), .int n] S P E := by
  refine call_def (d := Hd.f_beneath) rfl rfl ?_
  unfold Hd.f_beneath
  walk_at "am"
  have t0 : TreeAt M (S ++ [.lst []]) i τ := t.app
  exact ⟨_, t0.tree.1, _, rfl, boxes_of_no t0 hn (finX_cut hE) _⟩
theorem gathered_no (k : Nat) {v : Va} (hn : n ∉ τ.nums) (z : Clo) (hE : E "NoBox" S) : call (Hd.T.add z) (k + 4) "gathered" [.loc (M.L (.tree i)), .int n, v] S P E := by
  refine call_def (d := Hd.f_gathered) rfl rfl ?_
  unfold Hd.f_gathered
  walk_at "am"
  rw [WSs_cons]
  walk_at "am"
  have t1 : TreeAt M (S ++ [.lst [], .lst [.int n]]) i τ := t.app
  exact call_add (beneath_no w t1 k hn (finX_cut hE))
end
theorem _root_.AM.hasTab.app {S N : Sto} {q : Str} (h : hasTab S q) : hasTab (S ++ N) q := let ⟨i, e⟩ := h; ⟨i, gapp e⟩
def qM : Str := "_law_missing.<locals>.<lambda>"
def qT : Str := "_law_tried.<locals>.<lambda>"
def qL : Str := "law.<locals>.<lambda>"
theorem missing_ok (k : Nat) {M : Mem} {S : Sto} {i : Nat} {τ : Tre} (w : WF τ) (t : TreeAt M S i τ) {n : Int} (hn : n ∉ τ.nums) (hq : hasTab S qM) {P : PV} {E : PX} (h : P (.bl true) S) : call Hd.T (k + 5) "_law_missing" [.loc (M.L (.tree i)), .int n] S P E := by
  refine call_def (d := Hd.f_l_missing) rfl rfl ?_
  unfold Hd.f_l_missing
  walk_at "am"
  refine seq_cut (call_mono _ _) (fun Γ S' => False) ?_ (fun _ _ z => z.elim)
  rw [WS_try]
  walk_at "am"
  refine ⟨_, rfl, hq, fun z hz => ?_⟩
  exact gathered_no w t k hn z ⟨true, rfl, by rw [if_pos rfl]; exact fun _ => fin_keep h⟩
def filF (p : Int → Bool) : Va → Option Va
  | .int n => if p n = true then some (.int n) else none
  | _ => none
theorem filF_ok (p : Int → Bool) : ∀ ns : List Int, (ns.map Va.int).filterMap (filF p) = (ns.filter p).map Va.int
  | [] => rfl
  | n :: r => by
    have ih := filF_ok p r
    rw [List.map_cons, List.filter_cons, List.filterMap_cons, show filF p (.int n) = if p n = true then some (.int n) else none from rfl]
    cases h : p n with
    | true => simp only [if_true, List.map_cons, ih]
    | false => simp only [Bool.false_eq_true, if_false, ih]
/-- the five functions, as data -/
def fns (τ : Tre) (ms : List Int) (n ev lo sz : Int) : List (Int → Bool) := [fun m => decide (m.fmod ev ≤ lo), fun m => decide (sz < ((τ.nm m).length : Int)), fun m => decide (m ∈ ms), fun m => decide (m ∈ ms) || decide (m ∈ evensL (τ.und n)), fun _ => true]
/-- what they gather -/
def gath (τ : Tre) (ms : List Int) (n ev lo sz : Int) : List (List Int) := (fns τ ms n ev lo sz).map fun f => (τ.und n).filter f
theorem in_strs {S : Sto} {v : Va} {ys : List Str} {x : Str} {P : PV} (hv : LV S v (ys.map Va.str)) (hx : PyData.strOk x = true) (hy : ∀ w ∈ ys, PyData.strOk w = true) (h : P (.bl (decide (x ∈ ys))) S) : wCmp .isin (.str x) v S P := by
  have h1 : SeqAt.shaped (pd (.lst (ys.map Va.str))) = true := pd_shaped (v := .lst (ys.map Va.str)) (dats_strs hy) (dep_strs _)
  have h2 : SeqAt.shaped (pd (.str x)) = true := pd_shaped (v := .str x) hx (by simp [dep])
  rcases hv with rfl | ⟨k, rfl, hk⟩
  · exact ⟨_, _, dv_pd (v := .str x) hx, LV.dv (.inl rfl) (dats_strs hy), h2, h1, by rw [show pd (.str x) = .str x from rfl, any_strs]; exact h⟩
  · exact ⟨_, hk, _, _, dv_pd (v := .str x) hx, LV.dv (.inr ⟨_, rfl, hk⟩) (dats_strs hy), h2, h1, by rw [if_neg (by decide), show pd (.str x) = .str x from rfl, any_strs]; exact h⟩
/-- the tree, and what is marked -/
structure Tm (M : Mem) (S : Sto) (τ : Tre) (cs : List Nat) (ms : List Int) : Prop where
  w : WF τ
  t : TreeAt M S 0 τ
  l : LawAt false M S 0 τ
  g : Pt M S (.top 0) (.lst (ms.map Va.int))
  ma : ∀ n ∈ τ.nums, τ.marks n = if n ∈ ms then [sx cs] else []
  nm : Nm cs
  ln : τ.nums.length ≤ 1000
  lm : ms.length ≤ 1000
theorem Tm.app {M : Mem} {S N : Sto} {τ : Tre} {cs : List Nat} {ms : List Int} (h : Tm M S τ cs ms) : Tm M (S ++ N) τ cs ms := ⟨h.w, h.t.app, h.l.app, h.g.app, h.ma, h.nm, h.ln, h.lm⟩
section
variable {M : Mem} {S : Sto} {τ : Tre} {cs : List Nat} {ms : List Int} (q : Tm M S τ cs ms) {n m : Int} {P : PV} {E : PX}
theorem f0_ok (k : Nat) (T : Tab) {id : Str} (hd : T.fn id = some Hd.f_law_i0) {m ev lo : Int} {S : Sto} {P : PV} {E : PX} (he : ev ≠ 0) (h : P (.bl (decide (m.fmod ev ≤ lo))) S) : call T (k + 1) id [.int m, .int lo, .int ev] S P E := by
  refine call_def (d := Hd.f_law_i0) hd rfl ?_
  unfold Hd.f_law_i0
  walk_at "am"
  exact ⟨he, fin_keep h⟩
theorem f0b_ok (k : Nat) (T : Tab) {id : Str} (hd : T.fn id = some Hd.f_l_tried_i4) {m ev lo : Int} {S : Sto} {P : PV} {E : PX} (he : ev ≠ 0) (h : P (.bl (decide (m.fmod ev ≤ lo))) S) : call T (k + 1) id [.int m, .int lo, .int ev] S P E := by
  refine call_def (d := Hd.f_l_tried_i4) hd rfl ?_
  unfold Hd.f_l_tried_i4
  walk_at "am"
  exact ⟨he, fin_keep h⟩
include q
theorem f1_ok (k : Nat) (z : Clo) (hm : m ∈ τ.nums) {sz : Int} (h : P (.bl (decide (sz < ((τ.nm m).length : Int)))) S) : call (Hd.T.add z) (k + 3) "_law_tried@3" [.int m, .int sz, .loc (M.L (.tree 0))] S P E := by
  refine call_def (d := Hd.f_l_tried_i3) rfl rfl ?_
  unfold Hd.f_l_tried_i3
  walk_at "am"
  refine ⟨_, q.t.tree.1, _, rfl, call_add (name_of_ok q.t k hm ?_)⟩
  have hn := (q.w.nm m hm).max
  walk_at "am"
  refine ⟨by rw [sx_len]; exact Nat.le_trans hn (by decide), ?_⟩
  rw [sx_len]
  exact fin_keep h
theorem f2_ok (k : Nat) (z : Clo) (hm : m ∈ τ.nums) (h : P (.bl (decide (m ∈ ms))) S) : call (Hd.T.add z) (k + 3) "_law_tried@2" [.int m, .str (sx cs), .loc (M.L (.tree 0))] S P E := by
  refine call_def (d := Hd.f_l_tried_i2) rfl rfl ?_
  unfold Hd.f_l_tried_i2
  walk_at "am"
  have em := q.ma m hm
  refine ⟨_, q.t.tree.1, _, rfl, call_add (marks_of_ok q.t k hm (by rw [em]; split <;> simp) fun ws w1 _ => ?_)⟩
  have e : ws = τ.marks m := by
    rw [em] at w1 ⊢
    split at w1
    · rename_i y; rw [if_pos y]; exact List.perm_singleton.mp w1
    · rename_i y; rw [if_neg y]; exact List.perm_nil.mp w1
  subst e
  refine in_strs (.inl rfl) (nm_sok q.nm) (fun x hx => ?_) (fin_keep ?_)
  · rw [em] at hx
    split at hx
    · rw [List.mem_singleton.mp hx]; exact nm_sok q.nm
    · cases hx
  · have e2 : decide (sx cs ∈ τ.marks m) = decide (m ∈ ms) := by
      rw [em]
      by_cases y : m ∈ ms
      · rw [if_pos y]; simp [y]
      · rw [if_neg y]; simp [y]
    rw [e2]; exact h
theorem f3_ok (k : Nat) (z : Clo) {us : List Int} (h : P (.bl (decide (m ∈ ms) || decide (m ∈ evensL us))) S) : call (Hd.T.add z) (k + 1) "_law_tried@1" [.int m, .loc (M.L (.top 0)), .lst (us.map Va.int)] S P E := by
  refine call_def (d := Hd.f_l_tried_i1) rfl rfl ?_
  unfold Hd.f_l_tried_i1
  walk_at "am"
  refine in_ints (.inr ⟨_, rfl, q.g.1⟩) ⟨_, rfl, ?_⟩
  by_cases y : m ∈ ms
  · rw [if_pos (decide_eq_true y)]
    rw [decide_eq_true y] at h ⊢
    exact fin_keep (by simpa using h)
  · rw [if_neg (by simpa using y)]
    rw [decide_eq_false y, Bool.false_or] at h
    have e : evensL (us.map Va.int) = (evensL us).map Va.int := evens_map us
    rw [e]
    exact in_ints (.inr ⟨_, rfl, by rw [sg_p0]; rfl⟩) (fin_val rfl h)
omit q in
theorem f4_ok (k : Nat) (z : Clo) {S : Sto} {P : PV} {E : PX} (h : P (.bl true) S) : call (Hd.T.add z) (k + 1) "_law_tried@0" [.int m] S P E := by
  refine call_def (d := Hd.f_l_tried_i0) rfl rfl ?_
  unfold Hd.f_l_tried_i0
  walk_at "am"
  exact fin_keep h
theorem tried_ok (k : Nat) (hn : n ∈ τ.nums) (ht : hasTab S qT) {ev lo sz : Int} (he : ev ≠ 0) (h : P (.lst ((gath τ ms n ev lo sz).map fun xs => .lst (xs.map Va.int))) S) :
    call Hd.T (k + 5) "_law_tried" [.loc (M.L (.tree 0)), .int n, .lst ((τ.und n).map Va.int), .int ev, .int lo, .int sz, .str (sx cs), .loc (M.L (.top 0))] S P E := by
  refine call_def (d := Hd.f_l_tried) rfl rfl ?_
  unfold Hd.f_l_tried
  have hu := fun m (hm : m ∈ τ.und n) => q.w.und_mem hn hm
  walk_at "am"
  refine ⟨_, rfl, ht, fun z hz => ?_⟩
  refine gathered_ok q.w q.t k hn q.ln (fun m => decide (m.fmod ev ≤ lo)) (fun m hm N P E hp => by rw [hz]; exact f0b_ok _ _ rfl he hp) ?_
  walk_at "am"
  have step : ∀ (xs : List Va) (v : Va), (S ++ [Ob.lst xs]).set S.length (.lst (xs ++ [v])) = S ++ [.lst (xs ++ [v])] := fun xs v => by rw [ss_p0]; rfl
  have get : ∀ xs : List Va, (S ++ [Ob.lst xs])[S.length]? = some (.lst xs) := fun xs => by rw [sg_p0]; rfl
  obtain ⟨A0, hA0⟩ : ∃ A0, A0 = [Va.lst (((τ.und n).filter fun m => decide (m.fmod ev ≤ lo)).map Va.int)] := ⟨_, rfl⟩
  rw [← hA0]
  refine ⟨_, rfl, ht.app, fun z hz => ?_⟩
  refine gathered_ok q.w q.t.app k hn q.ln (fun m => decide (sz < ((τ.nm m).length : Int))) (fun m hm N P E hp => by rw [hz]; exact f1_ok (q.app.app) _ z (hu m hm) hp) ?_
  refine ⟨_, get _, by rw [hA0]; simp, ?_⟩
  rw [step]
  obtain ⟨A1, hA1⟩ : ∃ A1, A1 = A0 ++ [Va.lst (((τ.und n).filter fun m => decide (sz < ((τ.nm m).length : Int))).map Va.int)] := ⟨_, rfl⟩
  rw [← hA1]
  refine ⟨⟨_, get _⟩, _, rfl, ht.app, fun z hz => ?_⟩
  refine gathered_ok q.w q.t.app k hn q.ln (fun m => decide (m ∈ ms)) (fun m hm N P E hp => by rw [hz]; exact f2_ok (q.app.app) _ z (hu m hm) hp) ?_
  refine ⟨_, get _, by rw [hA1, hA0]; simp, ?_⟩
  rw [step]
  obtain ⟨A2, hA2⟩ : ∃ A2, A2 = A1 ++ [Va.lst (((τ.und n).filter fun m => decide (m ∈ ms)).map Va.int)] := ⟨_, rfl⟩
  rw [← hA2]
  refine ⟨⟨_, get _⟩, _, rfl, ht.app, fun z hz => ?_⟩
  refine gathered_ok q.w q.t.app k hn q.ln (fun m => decide (m ∈ ms) || decide (m ∈ evensL (τ.und n))) (fun m hm N P E hp => by rw [hz]; exact f3_ok (q.app.app) (k + 2) z hp) ?_
  refine ⟨_, get _, by rw [hA2, hA1, hA0]; simp, ?_⟩
  rw [step]
  obtain ⟨A3, hA3⟩ : ∃ A3, A3 = A2 ++ [Va.lst (((τ.und n).filter fun m => decide (m ∈ ms) || decide (m ∈ evensL (τ.und n))).map Va.int)] := ⟨_, rfl⟩
  rw [← hA3]
  refine ⟨⟨_, get _⟩, _, rfl, ht.app, fun z hz => ?_⟩
  refine gathered_ok q.w q.t.app k hn q.ln (fun m => true) (fun m hm N P E hp => by rw [hz]; exact f4_ok (k + 2) z hp) ?_
  refine ⟨_, get _, by rw [hA3, hA2, hA1, hA0]; simp, ?_⟩
  rw [step]
  refine fin_lst0 (xs := (gath τ ms n ev lo sz).map fun xs => .lst (xs.map Va.int)) ?_ (pls_iff.mpr fun x hx => ?_) h
  · rw [hA3, hA2, hA1, hA0]; rfl
  · obtain ⟨ys, _, rfl⟩ := List.mem_map.mp hx
    exact pls_iff.mpr fun y hy => by obtain ⟨u, _, rfl⟩ := List.mem_map.mp hy; rfl
omit q in
theorem fil_ok (k : Nat) {c : Te} {a0 a1 a2 a3 a4 a5 a6 a7 : Option Va} {S1 : Sto} {P : PV} {xs : List Int} {d : Nat} (ed : d = S1.length) (p : Int → Bool) (hn : xs.length ≤ 1000000)
    (h : ∀ m ∈ xs, ∀ acc, WT (orc Hd.T k) c [a0, a1, a2, a3, a4, a5, a6, some (.int m)] (S1 ++ [.lst acc]) (fun b S2 => S2 = S1 ++ [.lst acc] ∧ b = p m) (fun _ _ => False)) (hP : P (.loc S1.length) (S1 ++ [.lst ((xs.filter p).map Va.int)])) :
    cpB (orc Hd.T k) [7] (.var 7) (.name 7) (.some c) (fun _ => True) d P (xs.map Va.int) [a0, a1, a2, a3, a4, a5, a6, a7] (S1 ++ [.lst []]) := by
  subst ed
  refine cpL_map (call_mono _ _) (filF p) (by rw [List.length_map]; exact hn) (fun _ => trivial) (fun x hx acc => ?_) (by rw [filF_ok]; exact hP)
  obtain ⟨m, hm, rfl⟩ := List.mem_map.mp hx
  refine ⟨_, rfl, ?_⟩
  refine WT_mono (call_mono _ _) c _ _ _ _ _ _ (fun b S2 ⟨e1, e2⟩ => ⟨e1, ?_⟩) (fun _ _ z => z) (h m hm acc)
  subst e2
  cases e : p m with
  | true =>
    rw [show filF p (.int m) = some (.int m) from if_pos e]
    exact ⟨rfl, _, rfl, rfl, rfl⟩
  | false =>
    rw [show filF p (.int m) = none from if_neg (by rw [e]; decide)]
theorem wanted_ok (k : Nat) (hn : n ∈ τ.nums) {ev lo sz : Int} (he : ev ≠ 0) (h : P (.lst ((gath τ ms n ev lo sz).map fun xs => .lst (xs.map Va.int))) S) :
    call Hd.T (k + 1) "_law_wanted" [.loc (M.L (.lfacts 0)), .lst ((τ.und n).map Va.int), .int ev, .int lo, .int sz, .loc (M.L (.top 0))] S P E := by
  refine call_def (d := Hd.f_l_wanted) rfl rfl ?_
  unfold Hd.f_l_wanted
  have hu := fun m (hm : m ∈ τ.und n) => q.w.und_mem hn hm
  have hul := q.w.und_len hn
  have hln := q.ln
  walk_at "am"
  refine fil_ok _ rfl (fun m => decide (m.fmod ev ≤ lo)) (by omega) (fun m hm acc => ?_) ?_
  · walk_at "am"
    exact he
  obtain ⟨S1, hS1⟩ : ∃ S1, S1 = S ++ [Ob.lst (((τ.und n).filter fun m => decide (m.fmod ev ≤ lo)).map Va.int), .lst [.loc S.length]] := ⟨_, rfl⟩
  walk_at "am"
  rw [show S ++ [Ob.lst (((τ.und n).filter fun m => decide (m.fmod ev ≤ lo)).map Va.int), .lst [.loc S.length], .lst []] = S1 ++ [.lst []] from by rw [hS1]; simp]
  have q1 : Tm M S1 τ cs ms := by rw [hS1]; exact q.app
  refine fil_ok _ (by rw [hS1]; simp) (fun m => decide (sz < ((τ.nm m).length : Int))) (by omega) (fun m hm acc => ?_) ?_
  · walk_at "am"
    obtain ⟨kvf, hF, hf⟩ := (q1.l.app (N := [.lst acc])).facts
    refine ⟨_, hf.1, ?_⟩
    walk_at "am"
    refine ⟨_, hF.get m (hu m hm), ?_⟩
    walk_at "am"
    refine ⟨by rw [sx_len]; exact Nat.le_trans (q.w.nm m (hu m hm)).max (by decide), ?_⟩
    rw [sx_len]
  obtain ⟨La, hLa⟩ : ∃ La, La = Ob.lst (((τ.und n).filter fun m => decide (m.fmod ev ≤ lo)).map Va.int) := ⟨_, rfl⟩
  obtain ⟨Lb, hLb⟩ : ∃ Lb, Lb = Ob.lst (((τ.und n).filter fun m => decide (sz < ((τ.nm m).length : Int))).map Va.int) := ⟨_, rfl⟩
  obtain ⟨Lc, hLc⟩ : ∃ Lc, Lc = Ob.lst (((τ.und n).filter fun m => decide (m ∈ ms)).map Va.int) := ⟨_, rfl⟩
  rw [show S1 ++ [Ob.lst (((τ.und n).filter fun m => decide (sz < ((τ.nm m).length : Int))).map Va.int)] = S ++ [La, .lst [.loc S.length], Lb] from by rw [hS1, hLa, hLb]; simp, show S1.length = S.length + 2 from by rw [hS1]; simp]
  have get : ∀ (xs : List Va) (r : Sto), (S ++ La :: .lst xs :: r)[S.length + 1]? = some (.lst xs) := fun xs r => by rw [sg_pl]; rfl
  have step : ∀ (xs ys : List Va) (r : Sto), (S ++ La :: .lst xs :: r).set (S.length + 1) (.lst ys) = S ++ La :: .lst ys :: r := fun xs ys r => by rw [ss_pl]; rfl
  refine ⟨_, get _ _, by simp, ?_⟩
  rw [step]
  refine ⟨⟨_, get _ _⟩, ?_⟩
  obtain ⟨S2, hS2⟩ : ∃ S2, S2 = S ++ [La, .lst [.loc S.length, .loc (S.length + 2)], Lb] := ⟨_, rfl⟩
  have q2 : Tm M S2 τ cs ms := by rw [hS2]; exact q.app
  show cpB _ _ _ _ _ _ (S ++ [La, .lst [.loc S.length, .loc (S.length + 2)], Lb]).length _ _ _ ((S ++ [La, .lst [.loc S.length, .loc (S.length + 2)], Lb]) ++ [.lst []])
  rw [← hS2]
  refine fil_ok _ rfl (fun m => decide (m ∈ ms)) (by omega) (fun m hm acc => ?_) ?_
  · walk_at "am"
    exact in_ints (.inr ⟨_, rfl, q2.g.app.1⟩) ⟨_, rfl, rfl, rfl⟩
  rw [show S2 ++ [Ob.lst (((τ.und n).filter fun m => decide (m ∈ ms)).map Va.int)] = S ++ [La, .lst [.loc S.length, .loc (S.length + 2)], Lb, Lc] from by rw [hS2, hLc]; simp, show S2.length = S.length + 3 from by rw [hS2]; simp]
  refine ⟨_, get _ _, by simp, ?_⟩
  rw [step]
  refine ⟨⟨_, get _ _⟩, ?_⟩
  obtain ⟨S3, hS3⟩ : ∃ S3, S3 = S ++ [La, .lst [.loc S.length, .loc (S.length + 2), .loc (S.length + 3)], Lb, Lc] := ⟨_, rfl⟩
  have q3 : Tm M S3 τ cs ms := by rw [hS3]; exact q.app
  show cpB _ _ _ _ _ _ (S ++ [La, .lst [.loc S.length, .loc (S.length + 2), .loc (S.length + 3)], Lb, Lc]).length _ _ _ ((S ++ [La, .lst [.loc S.length, .loc (S.length + 2), .loc (S.length + 3)], Lb, Lc]) ++ [.lst []])
  rw [← hS3]
  obtain ⟨p3, hp3⟩ : ∃ p3 : Int → Bool, p3 = fun m => decide (m ∈ ms) || decide (m ∈ evensL (τ.und n)) := ⟨_, rfl⟩
  refine cpL_st (call_mono _ _) (fun j S4 => ∃ N, S4 = S3 ++ (.lst ((((τ.und n).take j).filter p3).map Va.int) :: N)) ⟨[], rfl⟩ ?_ ?_
  · rintro j x S4 hx ⟨N, rfl⟩
    obtain ⟨m, hm', rfl⟩ := Option.map_eq_some_iff.mp (by rw [List.getElem?_map] at hx; exact hx)
    refine ⟨_, rfl, ?_⟩
    walk_at "am"
    have tl : ((τ.und n).take j).length ≤ (τ.und n).length := List.length_take_le' _ _
    have fl := List.length_filter_le p3 ((τ.und n).take j)
    refine in_ints (.inr ⟨_, rfl, q3.g.app.1⟩) ⟨_, rfl, ?_⟩
    have g0 : ∀ (a : List Va) (N2 : Sto), (S3 ++ .lst a :: N2)[S3.length]? = some (.lst a) := fun a N2 => by rw [sg_p0]; rfl
    have s0 : ∀ (a b : List Va) (N2 : Sto), (S3 ++ .lst a :: N2).set S3.length (.lst b) = S3 ++ .lst b :: N2 := fun a b N2 => by rw [ss_p0]; rfl
    have add : ∀ N2 : Sto, p3 m = true → ∃ acc, (S3 ++ .lst ((((τ.und n).take j).filter p3).map Va.int) :: N2)[S3.length]? = some (.lst acc) ∧ acc.length < 1000000 ∧ ∃ N3, (S3 ++ .lst ((((τ.und n).take j).filter p3).map Va.int) :: N2).set S3.length (.lst (acc ++ [.int m])) = S3 ++ (.lst ((((τ.und n).take (j + 1)).filter p3).map Va.int) :: N3) := fun N2 e => by
      refine ⟨_, g0 _ _, by rw [List.length_map]; omega, N2, ?_⟩
      rw [s0, take_fil hm', if_pos e, List.map_append]; rfl
    by_cases y : m ∈ ms
    · rw [if_pos (decide_eq_true y)]
      exact add N (by rw [hp3]; simp [y])
    · rw [if_neg (by simpa using y)]
      walk_at "am"
      rw [evens_map]
      refine in_ints (ys := evensL (τ.und n)) (.inr ⟨_, rfl, by rw [sg_pl]; simp⟩) ⟨_, rfl, ?_⟩
      have e4 : S3 ++ .lst ((((τ.und n).take j).filter p3).map Va.int) :: (N ++ [.lst ((evensL (τ.und n)).map Va.int)]) = S3 ++ .lst ((((τ.und n).take j).filter p3).map Va.int) :: (N ++ [.lst ((evensL (τ.und n)).map Va.int)]) := rfl
      by_cases y2 : m ∈ evensL (τ.und n)
      · rw [if_pos (decide_eq_true y2)]
        exact add _ (by rw [hp3]; simp [y2])
      · rw [if_neg (by simpa using y2)]
        refine ⟨N ++ [.lst ((evensL (τ.und n)).map Va.int)], ?_⟩
        rw [take_fil hm', if_neg (by rw [hp3]; simp [y, y2]), List.append_nil]
  · rintro S4 ⟨N, rfl⟩
    rw [List.length_map, List.take_length]
    obtain ⟨Ld, hLd⟩ : ∃ Ld, Ld = Ob.lst (((τ.und n).filter p3).map Va.int) := ⟨_, rfl⟩
    rw [← hLd, show S3 ++ Ld :: N = S ++ La :: .lst [.loc S.length, .loc (S.length + 2), .loc (S.length + 3)] :: Lb :: Lc :: Ld :: N from by rw [hS3]; simp, show S3.length = S.length + 4 from by rw [hS3]; simp]
    refine ⟨_, get _ _, by simp, ?_⟩
    rw [step]
    refine ⟨⟨_, get _ _⟩, _, get _ _, by simp, ?_⟩
    rw [step]
    refine fin_pure (v' := .lst ((gath τ ms n ev lo sz).map fun xs => .lst (xs.map Va.int))) ?_ h
    have at_ : ∀ (i : Nat) (o : Ob) (r : Sto), r[i]? = some o → (S ++ r)[S.length + i]? = some o := fun i o r e => by rw [sg_pl]; exact e
    have plI : ∀ us : List Int, Fzs (S ++ La :: .lst ([.loc S.length, .loc (S.length + 2), .loc (S.length + 3)] ++ [.loc (S.length + 4)] ++ [.lst ((τ.und n).map Va.int)]) :: Lb :: Lc :: Ld :: N) S.length (us.map Va.int) (us.map Va.int) := fun us => fzs_pl (pls_iff.mpr fun x hx => by obtain ⟨y, _, rfl⟩ := List.mem_map.mp hx; rfl)
    refine ⟨_, .inr ⟨_, rfl, Nat.le_add_right _ _, at_ 1 _ _ rfl⟩, ?_⟩
    refine ⟨_, _, rfl, ⟨_, .inr ⟨_, rfl, Nat.le_refl _, by rw [hLa]; exact at_ 0 _ _ rfl⟩, plI _⟩, _, _, rfl, ⟨_, .inr ⟨_, rfl, Nat.le_add_right _ _, by rw [hLb]; exact at_ 2 _ _ rfl⟩, plI _⟩, _, _, rfl, ⟨_, .inr ⟨_, rfl, Nat.le_add_right _ _, by rw [hLc]; exact at_ 3 _ _ rfl⟩, plI _⟩, _, _, rfl, ⟨_, .inr ⟨_, rfl, Nat.le_add_right _ _, by rw [hLd, hp3]; exact at_ 4 _ _ rfl⟩, plI _⟩, _, _, rfl, ⟨_, .inl rfl, ?_⟩, rfl⟩
    show Fzs _ _ _ (((τ.und n).filter fun _ => true).map Va.int)
    rw [List.filter_eq_self.mpr (fun _ _ => rfl)]
    exact plI _
end
end TR
end

section
set_option linter.all false
set_option maxRecDepth 100000
set_option maxHeartbeats 4000000
/-! Law k13. -/
open PySem
namespace TR
open PySem AM NM
local macro_rules | `(tactic| walk_at "am") => `(tactic| try simp only [W_callc, W_dpop1, m_remove, st_set0, st_setS, iteTrue, iteFalse, iteDec, iteNDec, exSome, exBl, W_var, W_int, W_bl, W_non, W_str, W_tup, W_lst, W_bin, W_neg, W_cmp, W_isN, W_notN, W_lrev, W_maxd, W_sortk, wIsb, wNisb, W_chain, W_chain3, W_tst, W_ite, W_call, W_len, W_abs, W_isi, W_sub, WT_val, WT_not, WT_and, WT_or, WA_one, WA_cons, WO_one, WO_cons, WB_val, WB_not, WB_and, WB_or, WBA_one, WBA_cons, WBO_one, WBO_cons, WL_nil, WL_cons, WS_set, WS_ret, WS_retN, WS_pass, WS_brk, WS_cont, WS_drop, WS_ite, WS_raise, WSs_nil, Ss_set, Ss_ret, Ss_retN, Ss_pass, Ss_brk, Ss_cont, Ss_drop, Ss_raise, Ss_ite_ret, Ss_ite_retN, Ss_ite_raise, Ss_ite_cont, Ss_ite_brk, Ss_ite_last, gt_0, gt_S, wAdd_int, wSub_int, wMul_int, wMul_rep, wMul_str, wDiv_int, wMod_int, wPow_int, wAdd_str, wNeg_int, wAbs_int, wLt_int, wLe_int, wGt_int, wGe_int, wEq_int, wNe_int, wEq_bl, wNe_bl, wEq_str, wNe_str, wLen_tup, wLen_lst, tru_bl, tru_int, ty_int_int, ty_int_bool, ty_int_str, ty_int_tuple, ty_int_list, ty_int_dict, ty_bl_int, ty_bl_bool, ty_bl_str, ty_bl_tuple, ty_bl_list, ty_bl_dict, ty_str_int, ty_str_bool, ty_str_str, ty_str_tuple, ty_str_list, ty_str_dict, ty_tup_int, ty_tup_bool, ty_tup_str, ty_tup_tuple, ty_tup_list, ty_tup_dict, ty_lst_int, ty_lst_bool, ty_lst_str, ty_lst_tuple, ty_lst_list, ty_lst_dict, ty_dct_int, ty_dct_bool, ty_dct_str, ty_dct_tuple, ty_dct_list, ty_dct_dict, ty_non, sub_tup0, sub_tup1, sub_tup2, sub_tup3, sub_tup4, sub_tup5, sub_lst0, sub_lst1, sub_lst2, sub_lst3, sub_lst4, sub_lst5, startA, List.map_cons, List.map_nil, List.length_cons, List.length_nil, List.replicate, List.cons_append, List.nil_append, true_and, and_true, ne_eq, isNon, Bool.not_true, Bool.not_false, Bool.true_or, Bool.or_true, Bool.false_or, reduceIte, Nat.reduceAdd, Nat.zero_add, Int.cast_ofNat_Int, Int.reduceEq, Int.reduceLT, Int.reduceLE, Nat.reduceLeDiff, decide_true, decide_false, not_true_eq_false, not_false_eq_true, Nat.reduceSub, Int.reduceToNat, W_slice, W_blt, W_mth, W_comp, WOe_none, WOe_some, WI_seq, WI_keys, WI_items, WI_range1, WI_range2, WI_enum, WI_zip, WI_rev, WI_revr, WI_rangeD, WT0_none, WT0_some, Ss_asg, Ss_setSub, Ss_aug, WS_asg, WS_aug, WS_for, WS_setC, bT_name, bT_tup, bT_lst, bTs_nil, bTs_name, seq_lst, seq_tup, seq_scr, seq_str, seq_loc, en_tup, en_lst, en_scr, en_loc, lst_lst, lst_scr, lst_loc, exInt, exLoc, exLst, exLst1, exLV_lst, exLV_loc, mOk_app, mOk_pop, mOk_ext, mOk_ins, mOk_ind, mOk_join, mOk_indl, m_append, m_pop, m_extend, m_insert, m_join, b_listL, b_listT, b_listS, b_listK, b_tupL, b_tupT, b_tupK, b_max2, b_min2, b_ord, b_str, sl_lst, sl_loc, sl_scr, sl_tupE, sl_strE, cat_lst, cat_loc, cat_tup, wLen_scr, wLen_loc, wLen_str, wSub_scr, wSub_loc, wSub_str, aug_add, aug_sub, tru_lst, tru_tup, tru_non, ty_scr_list, sg_p0, sg_pl, ss_p0, ss_pl, ob_set0, ob_set1, ob_set2, ob_set3, ob_g0, ob_g1, ob_g2, ob_g3, List.append_assoc, List.length_append, List.nil_append, Nat.add_zero, Nat.add_assoc, Int.reduceNeg, wipeA, orc_run, orc_glob, orc_init, orc_isa, orc_gdct, W_isc, W_isE, W_isEt, orc_xk, m_upper, m_partition, m_split, m_endswith, m_find, mOk_upper, mOk_partition, mOk_split, mOk_endswith, mOk_find, b_intB, W_glob, W_gget, W_fld, W_mcall, W_make, W_make0, W_dsp, Ss_setFld, subO_l, subO_d, subO_k, lenO_l, lenO_d, listO_l, listO_d, putO_l, keyV_int, keyV_str, wIn_str, wNotin_str, mapSome, at_0, at_1, at_2, at_3, at_4, at_5, ix_1_0, ix_2_0, ix_2_1, ix_3_0, ix_3_1, ix_3_2, ix_4_0, ix_4_1, ix_4_2, ix_4_3, va_s0, va_s1, va_s2, va_s3])
local macro_rules | `(tactic| walk_at "if") => `(tactic| (try simp only []); rw [Ss_ite]; simp only [W_callc, W_dpop1, m_remove, st_set0, st_setS, iteTrue, iteFalse, iteDec, iteNDec, exSome, exBl, W_var, W_int, W_bl, W_non, W_str, W_tup, W_lst, W_bin, W_neg, W_cmp, W_isN, W_notN, W_lrev, W_maxd, W_sortk, wIsb, wNisb, W_chain, W_chain3, W_tst, W_ite, W_call, W_len, W_abs, W_isi, W_sub, WT_val, WT_not, WT_and, WT_or, WA_one, WA_cons, WO_one, WO_cons, WB_val, WB_not, WB_and, WB_or, WBA_one, WBA_cons, WBO_one, WBO_cons, WL_nil, WL_cons, WS_set, WS_ret, WS_retN, WS_pass, WS_brk, WS_cont, WS_drop, WS_ite, WS_raise, WSs_nil, Ss_set, Ss_ret, Ss_retN, Ss_pass, Ss_brk, Ss_cont, Ss_drop, Ss_raise, Ss_ite_ret, Ss_ite_retN, Ss_ite_raise, Ss_ite_cont, Ss_ite_brk, Ss_ite_last, gt_0, gt_S, wAdd_int, wSub_int, wMul_int, wMul_rep, wMul_str, wDiv_int, wMod_int, wPow_int, wAdd_str, wNeg_int, wAbs_int, wLt_int, wLe_int, wGt_int, wGe_int, wEq_int, wNe_int, wEq_bl, wNe_bl, wEq_str, wNe_str, wLen_tup, wLen_lst, tru_bl, tru_int, ty_int_int, ty_int_bool, ty_int_str, ty_int_tuple, ty_int_list, ty_int_dict, ty_bl_int, ty_bl_bool, ty_bl_str, ty_bl_tuple, ty_bl_list, ty_bl_dict, ty_str_int, ty_str_bool, ty_str_str, ty_str_tuple, ty_str_list, ty_str_dict, ty_tup_int, ty_tup_bool, ty_tup_str, ty_tup_tuple, ty_tup_list, ty_tup_dict, ty_lst_int, ty_lst_bool, ty_lst_str, ty_lst_tuple, ty_lst_list, ty_lst_dict, ty_dct_int, ty_dct_bool, ty_dct_str, ty_dct_tuple, ty_dct_list, ty_dct_dict, ty_non, sub_tup0, sub_tup1, sub_tup2, sub_tup3, sub_tup4, sub_tup5, sub_lst0, sub_lst1, sub_lst2, sub_lst3, sub_lst4, sub_lst5, startA, List.map_cons, List.map_nil, List.length_cons, List.length_nil, List.replicate, List.cons_append, List.nil_append, true_and, and_true, ne_eq, isNon, Bool.not_true, Bool.not_false, Bool.true_or, Bool.or_true, Bool.false_or, reduceIte, Nat.reduceAdd, Nat.zero_add, Int.cast_ofNat_Int, Int.reduceEq, Int.reduceLT, Int.reduceLE, Nat.reduceLeDiff, decide_true, decide_false, not_true_eq_false, not_false_eq_true, Nat.reduceSub, Int.reduceToNat, W_slice, W_blt, W_mth, W_comp, WOe_none, WOe_some, WI_seq, WI_keys, WI_items, WI_range1, WI_range2, WI_enum, WI_zip, WI_rev, WI_revr, WI_rangeD, WT0_none, WT0_some, Ss_asg, Ss_setSub, Ss_aug, WS_asg, WS_aug, WS_for, WS_setC, bT_name, bT_tup, bT_lst, bTs_nil, bTs_name, seq_lst, seq_tup, seq_scr, seq_str, seq_loc, en_tup, en_lst, en_scr, en_loc, lst_lst, lst_scr, lst_loc, exInt, exLoc, exLst, exLst1, exLV_lst, exLV_loc, mOk_app, mOk_pop, mOk_ext, mOk_ins, mOk_ind, mOk_join, mOk_indl, m_append, m_pop, m_extend, m_insert, m_join, b_listL, b_listT, b_listS, b_listK, b_tupL, b_tupT, b_tupK, b_max2, b_min2, b_ord, b_str, sl_lst, sl_loc, sl_scr, sl_tupE, sl_strE, cat_lst, cat_loc, cat_tup, wLen_scr, wLen_loc, wLen_str, wSub_scr, wSub_loc, wSub_str, aug_add, aug_sub, tru_lst, tru_tup, tru_non, ty_scr_list, sg_p0, sg_pl, ss_p0, ss_pl, ob_set0, ob_set1, ob_set2, ob_set3, ob_g0, ob_g1, ob_g2, ob_g3, List.append_assoc, List.length_append, List.nil_append, Nat.add_zero, Nat.add_assoc, Int.reduceNeg, wipeA, orc_run, orc_glob, orc_init, orc_isa, orc_gdct, W_isc, W_isE, W_isEt, orc_xk, m_upper, m_partition, m_split, m_endswith, m_find, mOk_upper, mOk_partition, mOk_split, mOk_endswith, mOk_find, b_intB, W_glob, W_gget, W_fld, W_mcall, W_make, W_make0, W_dsp, Ss_setFld, subO_l, subO_d, subO_k, lenO_l, lenO_d, listO_l, listO_d, putO_l, keyV_int, keyV_str, wIn_str, wNotin_str, mapSome, at_0, at_1, at_2, at_3, at_4, at_5, ix_1_0, ix_2_0, ix_2_1, ix_3_0, ix_3_1, ix_3_2, ix_4_0, ix_4_1, ix_4_2, ix_4_3, va_s0, va_s1, va_s2, va_s3])
structure At (n : Nat) (M : Mem) (S : Sto) (τ : Tre) (cs : List Nat) (ms : List Int) : Prop where
  q : Tm M S τ cs ms
  r : Rt τ
  co : τ.coming = τ.nums.length
  all : ∀ m : Int, 0 ≤ m → m < τ.coming → m ∈ τ.nums
  sub : ∀ m ∈ ms, m < τ.coming
  len : τ.nums.length ≤ n + 1
  lms : ms.length ≤ n
  y4 : Pt M S (.top 4) (.tab qM)
  y5 : Pt M S (.top 5) (.tab qT)
  y6 : Pt M S (.top 6) (.tab qL)
/-- a tag that the law's state leans on -/
def Tag.my : Tag → Bool
  | .top k => decide (k = 0) || decide (k = 4) || decide (k = 5) || decide (k = 6) | _ => true
theorem Tm.fr {M M' : Mem} {S S' : Sto} {τ : Tre} {cs : List Nat} {ms : List Int} (h : Tm M S τ cs ms) {D : Tag → Prop} (f : Fr D M S M' S') (d : ∀ a, a.my = true → D a) : Tm M' S' τ cs ms :=
  ⟨h.w, h.t.fr f fun a z => d a (by cases a <;> first | rfl | cases z), h.l.fr f fun a z => d a (by cases a <;> first | rfl | cases z), (f _ _ (d _ rfl) h.g).2, h.ma, h.nm, h.ln, h.lm⟩
theorem At.fr {n : Nat} {M M' : Mem} {S S' : Sto} {τ : Tre} {cs : List Nat} {ms : List Int} (h : At n M S τ cs ms) {D : Tag → Prop} (f : Fr D M S M' S') (d : ∀ a, a.my = true → D a) : At n M' S' τ cs ms :=
  ⟨h.q.fr f d, h.r, h.co, h.all, h.sub, h.len, h.lms, (f _ _ (d _ rfl) h.y4).2, (f _ _ (d _ rfl) h.y5).2, (f _ _ (d _ rfl) h.y6).2⟩
theorem At.more {n m : Nat} {M : Mem} {S : Sto} {τ : Tre} {cs : List Nat} {ms : List Int} (h : At n M S τ cs ms) (l : n ≤ m) : At m M S τ cs ms := ⟨h.q, h.r, h.co, h.all, h.sub, by have := h.len; omega, by have := h.lms; omega, h.y4, h.y5, h.y6⟩
theorem WF.marks {τ : Tre} (w : WF τ) (f : Int → List Str) : WF { τ with marks := f } := ⟨w.nd, w.z, w.lt, w.h0, w.d0, w.up, w.rnd, w.row, w.nm, w.dp⟩
/-- the slots -/
def E0 (ns : List Int) (cs : List Nat) (M : Mem) (a6 a7 a8 a9 a10 a11 a12 a13 a14 a15 a16 : Option Va) : AM.Env := [some (.scr ns), some (.str (sx cs)), some (.loc (M.L (.tree 0))), some (.loc (M.L (.lrows 0))), some (.loc (M.L (.lfacts 0))), some (.loc (M.L (.top 0))), a6, a7, a8, a9, a10, a11, a12, a13, a14, a15, a16, none]
/-- a box more, perhaps marked -/
theorem At.put {j : Nat} {M M' : Mem} {S S' : Sto} {τ : Tre} {cs ds : List Nat} {ms : List Int} (A : At j M S τ cs ms) {h : Int} {p : Nat} (hj : j ≤ 40) (hh : h ∈ τ.nums) (hd : τ.deep h < 12) (hds : Nm ds) (t' : TreeAt M' S' 0 (τ.put h p ds)) (l' : LawAt false M' S' 0 (τ.put h p ds))
    (f' : Fr (fun a => a.of 0 = false ∧ a.lof 0 = false) M S M' S') : At (j + 1) M' S' (τ.put h p ds) cs ms := by
  have eco := A.co
  have hlen := A.len
  have hno := A.q.w.co
  have e2 : (τ.put h p ds).marks τ.coming = [] := up_eq
  refine ⟨⟨A.q.w.put hh hd hds, t', l', (f' _ _ ⟨rfl, rfl⟩ A.q.g).2, fun n hn => ?_, A.q.nm, by rw [put_nums]; omega, A.q.lm⟩, A.r.put, by rw [put_nums]; show τ.coming + 1 = _; omega, fun m h0 h1 => ?_, fun m hm => Int.lt_trans (A.sub m hm) (Int.lt_succ _), by rw [put_nums]; omega, by have := A.lms; omega, (f' _ _ ⟨rfl, rfl⟩ A.y4).2, (f' _ _ ⟨rfl, rfl⟩ A.y5).2, (f' _ _ ⟨rfl, rfl⟩ A.y6).2⟩
  · by_cases z : n = τ.coming
    · subst z
      rw [e2, if_neg (fun z => by have := A.sub _ z; omega)]
    · rw [show (τ.put h p ds).marks n = τ.marks n from up_ne z]
      rcases List.mem_append.mp hn with y | y
      · exact A.q.ma n y
      · exact absurd (List.mem_singleton.mp y) z
  · have h1 : m < τ.coming + 1 := h1
    by_cases z : m = τ.coming
    · subst z; exact List.mem_append_right _ (List.mem_singleton.mpr rfl)
    · exact List.mem_append_left _ (A.all m h0 (by omega))
theorem At.mark {j : Nat} {M : Mem} {S S' : Sto} {τ : Tre} {cs : List Nat} {ms : List Int} (A : At j M S τ cs ms) {n : Int} (hn : n ∈ τ.nums) (hno : n ∉ ms) (hl : ms.length + 1 ≤ j) (hj : j ≤ 60) {f : Fr (fun a => a.of 0 = false) M S M S'} (t' : TreeAt M S' 0 { τ with marks := up τ.marks n (if sx cs ∈ τ.marks n then τ.marks n else τ.marks n ++ [sx cs]) }) :
    ∃ τ', At j M (S'.set (M.L (.top 0)) (.lst ((ms ++ [n]).map Va.int))) τ' cs (ms ++ [n]) ∧ τ'.nums = τ.nums ∧ τ'.coming = τ.coming := by
  have em : τ.marks n = [] := by rw [A.q.ma n hn, if_neg hno]
  rw [em, if_neg (by simp)] at t'
  have g1 := (f _ _ rfl A.q.g).2
  have l1 : LawAt false M S' 0 { τ with marks := up τ.marks n ([] ++ [sx cs]) } := by
    have l4 := A.q.l.fr f fun a z => lof_not_tree z
    obtain ⟨kv4, h4, p4⟩ := l4.facts
    exact ⟨l4.rows, l4.row, ⟨kv4, ⟨h4.get, h4.len⟩, p4⟩⟩
  have f2 := Fr.set g1 (.lst ((ms ++ [n]).map Va.int))
  refine ⟨{ τ with marks := up τ.marks n ([] ++ [sx cs]) }, ⟨⟨A.q.w.marks _, t'.fr f2 fun a z => (by rintro rfl; cases z), l1.fr f2 fun a z => (by rintro rfl; cases z), g1.here, fun m hm => ?_, A.q.nm, A.q.ln, by simp; omega⟩, A.r, A.co, A.all, fun m hm => ?_, A.len, by simp; omega, (f2 _ _ (by simp) (f _ _ rfl A.y4).2).2, (f2 _ _ (by simp) (f _ _ rfl A.y5).2).2, (f2 _ _ (by simp) (f _ _ rfl A.y6).2).2⟩, rfl, rfl⟩
  · show up τ.marks n ([] ++ [sx cs]) m = _
    by_cases z : m = n
    · subst z; rw [up_eq, if_pos (by simp)]; rfl
    · rw [up_ne z, A.q.ma m hm]
      by_cases y : m ∈ ms
      · rw [if_pos y, if_pos (List.mem_append_left _ y)]
      · rw [if_neg y, if_neg (by simp [y, z])]
  · rcases List.mem_append.mp hm with y | y
    · exact A.sub m y
    · rw [List.mem_singleton.mp y]
      have := (A.q.w.lt n hn).2
      exact this

theorem law_ok (ns : List Int) (hl : ns.length ≤ 63) (hb : ∀ z ∈ ns, Builtin.Int.intBits z ≤ 1048576) : call Hd.T 9 "law" [.scr ns] [.tab qM, .tab qT, .tab qL] (fun v _ => v = .bl true) (fun _ _ => False) := by
  refine call_def (d := Hd.f_law) rfl rfl ?_
  unfold Hd.f_law
  walk_at "am"
  refine cell_ok nmT ns hb _ 0 (by omega) fun c0 hc0 => ?_
  refine name_ok nmT _ c0 9 hc0 (by decide) fun cs hcs => ?_
  walk_at "am"
  refine ⟨"Tree.__init__", rfl, ?_⟩
  obtain ⟨S0, hS0⟩ : ∃ S0 : Sto, S0 = [.tab qM, .tab qT, .tab qL] := ⟨_, rfl⟩
  obtain ⟨M0, hM0⟩ : ∃ M0 : Mem, M0 = ⟨fun a => if a = .top 5 then 1 else if a = .top 6 then 2 else 0, fun n => match n with | 0 => some (.top 4) | 1 => some (.top 5) | 2 => some (.top 6) | _ => none⟩ := ⟨_, rfl⟩
  have y4 : Pt M0 S0 (.top 4) (.tab qM) := by rw [hM0, hS0]; exact ⟨rfl, rfl⟩
  have y5 : Pt M0 S0 (.top 5) (.tab qT) := by rw [hM0, hS0]; exact ⟨rfl, rfl⟩
  have y6 : Pt M0 S0 (.top 6) (.tab qL) := by rw [hM0, hS0]; exact ⟨rfl, rfl⟩
  subst hS0
  show call Hd.T 8 "Tree.__init__" [.loc ([.tab qM, .tab qT, .tab qL] : Sto).length, .str (sx cs)] (([.tab qM, .tab qT, .tab qL] : Sto) ++ [.ins "Tree" []]) _ _
  refine made_ok 6 0 M0 hcs fun M1 S1 t1 f1 l1 => ⟨rfl, ?_⟩
  have z4 := f1 _ _ rfl y4
  have z5 := f1 _ _ rfl y5
  have z6 := f1 _ _ rfl y6
  walk_at "am"
  refine ⟨_, rfl, by simp, _, rfl, by simp, ?_⟩
  obtain ⟨S2, hS2⟩ : ∃ S2, S2 = S1 ++ [Ob.dct [(.inl 0, .loc (S1.length + 1))], .lst [], .dct [(.inl 0, .tup [.non, .str (sx cs)])], .lst []] := ⟨_, rfl⟩
  obtain ⟨M2, A, x0, x1, x2, x3⟩ : ∃ M2, At 0 M2 S2 (tre0 cs) cs [] ∧ M2.L (.tree 0) = 3 ∧ M2.L (.lrows 0) = S1.length ∧ M2.L (.lfacts 0) = S1.length + 2 ∧ M2.L (.top 0) = S1.length + 3 := by
    have l2 := start_law (M := M1) (S := S1) (N := []) (cs := cs)
    have fm2 := fr_mem2 (M := M1) (S := S1) (N := [Ob.dct [(.inl 0, .loc (S1.length + 1))], .lst [], .dct [(.inl 0, .tup [.non, .str (sx cs)])]])
    have t2 := t1.fr fm2 fun a z => tree_not_lof z
    have w4 := (fm2 _ _ rfl z4.2).2
    have w5 := (fm2 _ _ rfl z5.2).2
    have w6 := (fm2 _ _ rfl z6.2).2
    obtain ⟨S3, hS3⟩ : ∃ S3, S3 = S1 ++ [Ob.dct [(.inl 0, .loc (S1.length + 1))], .lst [], .dct [(.inl 0, .tup [.non, .str (sx cs)])]] := ⟨_, rfl⟩
    rw [← hS3] at l2 t2 w4 w5 w6
    have e3 : S3.length = S1.length + 3 := by rw [hS3]; simp
    have e2 : S2 = S3 ++ [.lst []] := by rw [hS2, hS3]; simp
    have f : Fr (· ≠ .top 0) (mem2 M1 S1.length) S3 ((mem2 M1 S1.length).new (.top 0) S3.length) (S3 ++ [.lst []]) := (Fr.new _ (Nat.le_refl _)).trans Fr.app
    rw [e2]
    refine ⟨(mem2 M1 S1.length).new (.top 0) S3.length, ⟨⟨wf0 hcs, t2.fr f fun a z => (by rintro rfl; cases z), l2.fr f fun a z => (by rintro rfl; cases z), .mk new_eq (by simp) (by simp [Mem.new]), fun n hn => ?_, hcs, by simp [tre0], by simp⟩, ⟨[], rfl⟩, rfl, fun m h0 h1 => ?_, fun m hm => (by cases hm), by simp [tre0], by simp, (f _ _ (by simp) w4).2, (f _ _ (by simp) w5).2, (f _ _ (by simp) w6).2⟩, ?_, ?_, ?_, ?_⟩
    · rw [if_neg (by simp)]; rfl
    · have h1 : m < 1 := h1
      have : m = 0 := by omega
      subst this; simp [tre0]
    · simp [mem2, Mem.new]; exact l1
    · simp [mem2, Mem.new]
    · simp [mem2, Mem.new]
    · rw [new_eq, e3]
  show WSs _ _ _ [some (.scr ns), some (.str (sx cs)), some (.loc 3), some (.loc S1.length), some (.loc (S1.length + 2)), some (.loc (S1.length + 3)), none, none, none, none, none, none, none, none, none, none, none, none] (S1 ++ [Ob.dct [(.inl 0, .loc (S1.length + 1))], .lst [], .dct [(.inl 0, .tup [.non, .str (sx cs)])], .lst []])
  have eG : ([some (.scr ns), some (.str (sx cs)), some (.loc 3), some (.loc S1.length), some (.loc (S1.length + 2)), some (.loc (S1.length + 3)), none, none, none, none, none, none, none, none, none, none, none, none] : AM.Env) = E0 ns cs M2 none none none none none none none none none none none := by unfold E0; rw [x0, x1, x2, x3]
  rw [← hS2, eG]
  refine seq_cut (call_mono _ _) (fun Γ S' => ∃ M τ ms, At 40 M S' τ cs ms ∧ ∃ a6 a7 a8, Γ = E0 ns cs M a6 a7 a8 none none none none none none none none) ?_ ?_
  · unfold E0
    walk_at "am"
    obtain ⟨xs, hxs⟩ : ∃ xs, xs = cutA ns (some 3) (some 27) := ⟨_, rfl⟩
    have hmem : ∀ c ∈ xs, Cb c := fun c hc => bits_lg (hb _ (List.mem_of_mem_drop (List.mem_of_mem_take (by rw [hxs] at hc; exact hc))))
    have hlen : xs.length ≤ 40 := by
      rw [hxs]
      unfold cutA
      rw [show (27 : Int) = ((27 : Nat) : Int) from rfl, show (3 : Int) = ((3 : Nat) : Int) from rfl, HT.sIx_nat, HT.sIx_nat]
      exact Nat.le_trans (List.length_take_le _ _) (by omega)
    rw [← hxs]
    have A1 : At 0 (M2.new (.top 3) S2.length) (S2 ++ [.lst (xs.map Va.int)]) (tre0 cs) cs [] := A.fr (D := (· ≠ .top 3)) ((Fr.new _ (Nat.le_refl _)).trans Fr.app) (fun a z => (by rintro rfl; simp [Tag.my] at z))
    have q1 : Pt (M2.new (.top 3) S2.length) (S2 ++ [.lst (xs.map Va.int)]) (.top 3) (.lst (xs.map Va.int)) := .mk new_eq (by simp) (by simp [Mem.new])
    have e3 : (M2.new (.top 3) S2.length).L (.top 3) = S2.length := new_eq
    refine for_ix (call_mono _ _) (fun j Γ S' => ∃ M τ ms, At j M S' τ cs ms ∧ Pt M S' (.top 3) (.lst (xs.map Va.int)) ∧ M.L (.top 3) = S2.length ∧ ∃ a6 a7 a8, Γ = E0 ns cs M a6 a7 a8 none none none none none none none none) ⟨_, _, _, A1, q1, e3, none, none, none, by simp [Mem.new, E0]⟩ ?_ ?_
    · rintro j x Γ S' hx ⟨M, τ, ms, A, q, e3, a6, a7, a8, rfl⟩
      obtain ⟨y, hy, rfl⟩ := enumV_get hx
      obtain ⟨c, hc', rfl⟩ := Option.map_eq_some_iff.mp (by rw [List.getElem?_map] at hy; exact hy)
      have hc := hmem c (List.mem_of_getElem? hc')
      have hj : j < 40 := Nat.lt_of_lt_of_le (lt_of_get hc') hlen
      have hnl := A.len
      have hco := A.co
      refine ⟨_, rfl, ?_⟩
      rw [Nat.zero_add]
      unfold E0
      have hlv : (lrv M 0 τ).length = τ.nums.length := kd_len
      have lr : Pt M S' (.lrows 0) (.dct (lrv M 0 τ)) := A.q.l.rows
      rw [WSs_cons]
      refine ite_cut (call_mono _ _) (fun b S1 => S1 = S' ∧ (b = false → 3 ≤ τ.nums.length)) ?_ ?_ ?_
      · walk_at "am"
        refine mix_ok nmT _ c (900 + (j : Int)) hc (by omega) fun m m0 m1 => ?_
        walk_at "am"
        split
        · exact fun z => (by cases z)
        · refine ⟨_, lr.1, ?_⟩
          walk_at "am"
          rw [hlv]
          exact fun z => by have := of_decide_eq_false z; omega
      · rintro S1 ⟨rfl, _⟩
        walk_at "am"
        refine ⟨_, lr.1, ?_⟩
        walk_at "am"
        rw [hlv, ← hco]
        refine lput_ok _ A.q.w A.q.t A.q.l (by omega) (by omega) hc (by omega) fun M' S3 h p ds hh hd hp hds t' l' f' eL => ?_
        walk_at "am"
        obtain ⟨z3, q'⟩ := f' _ _ ⟨rfl, rfl⟩ q
        have A' := A.put (by omega) hh hd hds t' l' f'
        have e0 := eL (.tree 0) (by simp [Tag.box]) (by simp)
        have e1 := eL (.lrows 0) (by simp [Tag.box]) (by simp)
        have e2 := eL (.lfacts 0) (by simp [Tag.box]) (by simp)
        have e4 := eL (.top 0) (by simp [Tag.box]) (by simp)
        have hcn : τ.coming ∈ (τ.put h p ds).nums := List.mem_append_right _ (List.mem_singleton.mpr rfl)
        rw [← e0, ← e1, ← e2, ← e4]
        by_cases od : c.fmod 3 = 1
        · rw [if_pos od]
          refine ⟨_, t'.tree.1, _, rfl, ?_⟩
          refine mark_ok t' _ hcn hcs (by rw [show (τ.put h p ds).marks τ.coming = [] from up_eq]; decide) fun S4 t4 f4 => ?_
          have hno : τ.coming ∉ ms := fun z => by have := A.sub _ z; omega
          obtain ⟨τ', A4, _, _⟩ := A'.mark hcn hno (by have := A.lms; omega) (by omega) (f := f4) t4
          have g4 := (f4 _ _ rfl A'.q.g).2
          have q4 := (f4 _ _ rfl q').2
          refine ⟨⟨_, g4.1⟩, _, g4.1, by rw [List.length_map]; have := A.lms; omega, ?_⟩
          have q5 := q4.set g4 (by simp) (w := .lst (ms.map Va.int ++ [.int τ.coming]))
          refine ⟨by rw [← e3, ← z3]; exact q5.1, M', τ', ms ++ [τ.coming], ?_, q5, z3.trans e3, _, _, _, rfl⟩
          rw [List.map_append] at A4
          exact A4
        · rw [if_neg od]
          exact ⟨by rw [← e3, ← z3]; exact q'.1, M', _, ms, A', q', z3.trans e3, _, _, _, rfl⟩
      · rintro S1 ⟨rfl, h3⟩
        have h3 := h3 rfl
        walk_at "am"
        refine moved_ok _ A.q.w A.r A.q.t A.q.l (by omega) (by omega) (by omega) hc (by omega) fun M' S3 b h g p hb h0 hg hh hu hd t' l' f' eL => ?_
        walk_at "am"
        obtain ⟨z3, q'⟩ := f' _ _ ⟨rfl, rfl, by simp⟩ q
        refine ⟨by rw [← e3, ← z3]; exact q'.1, M', τ.move b h g p, ms, ⟨⟨A.q.w.move hb h0 hg hh hu hd, t', l', (f' _ _ ⟨rfl, rfl, by simp⟩ A.q.g).2, A.q.ma, A.q.nm, A.q.ln, A.q.lm⟩, A.r, A.co, A.all, A.sub, by show τ.nums.length ≤ _; omega, by have := A.lms; omega, (f' _ _ ⟨rfl, rfl, by simp⟩ A.y4).2, (f' _ _ ⟨rfl, rfl, by simp⟩ A.y5).2, (f' _ _ ⟨rfl, rfl, by simp⟩ A.y6).2⟩, q', z3.trans e3, some (.int (j : Nat)), some (.int c), a8, ?_⟩
        rw [eL _ (by simp) (by simp) (by simp), eL _ (by simp) (by simp) (by simp), eL _ (by simp) (by simp) (by simp), eL _ (by simp) (by simp) (by simp)]
    · rintro Γ S' ⟨M, τ, ms, A, q, e3, a6, a7, a8, rfl⟩
      rw [enumV_len, List.length_map] at A
      exact ⟨M, τ, ms, A.more hlen, _, _, _, rfl⟩
  rintro Γ S' ⟨M, τ, ms, A, a6, a7, a8, rfl⟩
  unfold E0
  have hnl := A.len
  have hco := A.co
  have hlv : (lrv M 0 τ).length = τ.nums.length := kd_len
  have lr : Pt M S' (.lrows 0) (.dct (lrv M 0 τ)) := A.q.l.rows
  have c1 := A.q.w.c1
  walk_at "am"
  refine cell_ok nmT ns hb _ 1 (by omega) fun c1' hc1 => ?_
  refine mix_ok nmT _ c1' 1 hc1 (by omega) fun m m0 m1 => ?_
  walk_at "am"
  refine ⟨_, lr.1, ?_⟩
  walk_at "am"
  rw [hlv]
  refine ⟨by omega, ?_⟩
  obtain ⟨n, hn⟩ : ∃ n, n = m.fmod ((τ.nums.length : Nat) : Int) := ⟨_, rfl⟩
  have hfn := fm m ((τ.nums.length : Nat) : Int) (by omega)
  have hin : n ∈ τ.nums := A.all n (by rw [hn]; exact hfn.1) (by rw [hn, hco]; exact hfn.2)
  rw [← hn]
  refine cell_ok nmT ns hb _ 1 (by omega) fun c2 hc2 => ?_
  walk_at "am"
  obtain ⟨ev, hev⟩ : ∃ ev, ev = 2 + c2.fmod 5 := ⟨_, rfl⟩
  have he : ev ≠ 0 := by have := fm c2 5 (by decide); omega
  rw [← hev]
  refine cell_ok nmT ns hb _ 2 (by omega) fun c3 hc3 => ?_
  walk_at "am"
  refine ⟨he, ?_⟩
  refine cell_ok nmT ns hb _ 2 (by omega) fun c4 hc4 => ?_
  walk_at "am"
  obtain ⟨lo, hlo⟩ : ∃ lo, lo = c3.fmod ev := ⟨_, rfl⟩
  obtain ⟨sz, hsz⟩ : ∃ sz, sz = c4.fmod 9 := ⟨_, rfl⟩
  rw [← hlo, ← hsz]
  refine under_ok _ A.q.w A.q.l hin A.q.ln ?_
  walk_at "am"
  have hul := A.q.w.und_len hin
  refine tried_ok A.q 3 hin ⟨_, A.y5.1⟩ he ?_
  walk_at "am"
  refine wanted_ok A.q _ hin he ?_
  walk_at "am"
  obtain ⟨G, hG⟩ : ∃ G, G = gath τ ms n ev lo sz := ⟨_, rfl⟩
  have hGl : G.length = 5 := by rw [hG]; rfl
  have hGs : ∀ g ∈ G, g.length ≤ 1000 := fun g hg => by
    rw [hG] at hg
    obtain ⟨f, _, rfl⟩ := List.mem_map.mp hg
    exact Nat.le_trans (List.length_filter_le _ _) (by have := A.q.ln; omega)
  rw [← hG]
  obtain ⟨E1, hE1⟩ : ∃ E1 : Option Va → AM.Env, E1 = fun a6 => [some (.scr ns), some (.str (sx cs)), some (.loc (M.L (.tree 0))), some (.loc (M.L (.lrows 0))), some (.loc (M.L (.lfacts 0))), some (.loc (M.L (.top 0))), a6, a7, a8, some (.int n), some (.int ev), some (.int lo), some (.int sz), some (.lst ((τ.und n).map Va.int)), some (.lst (G.map fun xs => .lst (xs.map Va.int))), some (.lst (G.map fun xs => .lst (xs.map Va.int))), none, none] := ⟨_, rfl⟩
  refine seq_cut (call_mono _ _) (fun Γ S9 => S9 = S' ∧ ∃ a6, Γ = E1 a6) ?_ ?_
  · walk_at "am"
    refine ⟨by decide, by decide, ?_⟩
    refine for_ix (call_mono _ _) (fun i Γ S9 => S9 = S' ∧ ∃ a6, Γ = E1 a6) ⟨rfl, a6, by rw [hE1]⟩ ?_ (fun _ _ z => z)
    rintro i x Γ S9 hx ⟨rfl, b6, rfl⟩
    obtain ⟨hi, rfl⟩ := rangeV_get hx
    refine ⟨_, rfl, ?_⟩
    rw [Int.zero_add, hE1]
    walk_at "am"
    have hi5 : i < G.length := by rw [hGl]; exact hi
    have hat : L2.atI (G.map fun xs => Va.lst (xs.map Va.int)) (i : Int) = some (.lst (G[i].map Va.int)) := L2.atI_nat (by rw [List.getElem?_map, List.getElem?_eq_getElem hi5]; rfl)
    refine ⟨_, hat, _, hat, ?_⟩
    refine same_ok _ G[i] (Nat.le_trans (hGs _ (List.getElem_mem hi5)) (by decide)) (.inl rfl) (.inl rfl) ?_
    walk_at "am"
    exact ⟨_, rfl⟩
  rintro Γ S9 ⟨rfl, b6, rfl⟩
  rw [hE1]
  walk_at "am"
  refine ⟨_, lr.1, ?_⟩
  walk_at "am"
  rw [hlv]
  refine cell_ok nmT ns hb _ 1 (by omega) fun c5 hc5 => ?_
  rw [← hco]
  refine lput_ok _ A.q.w A.q.t A.q.l (by omega) (by omega) hc5 (by omega) fun M' S3 h p ds hh hd hp hds t' l' f' eL => ?_
  walk_at "am"
  have A' := A.put (by omega) hh hd hds t' l' f'
  have e0 := eL (.tree 0) (by simp [Tag.box]) (by simp)
  have e1 := eL (.lrows 0) (by simp [Tag.box]) (by simp)
  have hin' : n ∈ (τ.put h p ds).nums := List.mem_append_left _ hin
  have hul' := A'.q.w.und_len hin'
  have hln' := A'.q.ln
  rw [← e0, ← e1]
  refine ⟨_, rfl, ⟨_, A'.y6.1⟩, fun z hz => ?_⟩
  refine gathered_ok A'.q.w A'.q.t 4 hin' A'.q.ln (fun m => decide (m.fmod ev ≤ lo)) (fun m hm N P E hp => by rw [hz]; exact f0_ok _ _ rfl he hp) ?_
  walk_at "am"
  refine under_ok _ A'.q.w A'.q.l hin' A'.q.ln ?_
  walk_at "am"
  refine cpL_map (call_mono _ _) (filF fun m => decide (m.fmod ev ≤ lo)) (by rw [List.length_map]; omega) (fun _ => trivial) (fun x hx acc => ?_) ?_
  · obtain ⟨m, hm, rfl⟩ := List.mem_map.mp hx
    refine ⟨_, rfl, ?_⟩
    walk_at "am"
    refine ⟨he, ?_⟩
    by_cases e : m.fmod ev ≤ lo
    · rw [show filF (fun m => decide (m.fmod ev ≤ lo)) (.int m) = some (.int m) from if_pos (decide_eq_true e)]
      exact ⟨decide_eq_true e, rfl⟩
    · rw [show filF (fun m => decide (m.fmod ev ≤ lo)) (.int m) = none from if_neg (by simpa using e)]
      exact decide_eq_false e
  rw [filF_ok]
  have hfl := List.length_filter_le (fun m => decide (m.fmod ev ≤ lo)) ((τ.put h p ds).und n)
  refine same_ok _ (((τ.put h p ds).und n).filter fun m => decide (m.fmod ev ≤ lo)) (by omega) (.inl rfl) (.inr ⟨_, rfl, by rw [sg_p0]; rfl⟩) ?_
  walk_at "am"
  have A2 := A'.fr (D := fun _ => True) (Fr.app (N := [.lst ((((τ.put h p ds).und n).filter fun m => decide (m.fmod ev ≤ lo)).map Va.int)])) fun _ _ => trivial
  have lr2 : Pt M' (S3 ++ [.lst ((((τ.put h p ds).und n).filter fun m => decide (m.fmod ev ≤ lo)).map Va.int)]) (.lrows 0) (.dct (lrv M' 0 (τ.put h p ds))) := A2.q.l.rows
  refine ⟨_, lr2.1, ?_⟩
  walk_at "am"
  rw [show (lrv M' 0 (τ.put h p ds)).length = (τ.put h p ds).nums.length from kd_len, ← A2.co]
  refine missing_ok 3 A2.q.w A2.q.t A2.q.w.co ⟨_, A2.y4.1⟩ ?_
  walk_at "am"
  refine cell_ok nmT ns hb _ 0 (by omega) fun c6 hc6 => ?_
  walk_at "am"
  have c29 : L2.CPow 10 29 := ⟨by decide, by decide, by decide⟩
  refine ⟨c29, ?_⟩
  walk_at "am"
  refine ⟨by decide, ?_⟩
  refine missing_ok 3 A2.q.w A2.q.t (fun z => ?_) ⟨_, A2.y4.1⟩ (fin_keep rfl)
  have h1 := (A2.q.w.lt _ z).1
  have h2 := (fm c6 (10 ^ 29) (by decide)).1
  omega
end TR
end

section
set_option linter.all false
set_option maxRecDepth 100000
set_option maxHeartbeats 4000000
open PySem
open Hd (f_law)
namespace LawProof
open PySem AM
theorem law_holds (ns : List Int) (hl : ns.length ≤ 63) (hb : ∀ z ∈ ns, Builtin.Int.intBits z ≤ 1048576) : call Hd.T 9 "law" [.scr ns] [.tab TR.qM, .tab TR.qT, .tab TR.qL] (fun v _ => v = .bl true) (fun _ _ => False) := TR.law_ok ns hl hb
end LawProof
namespace Hd
open PySem PySem.Spec PyProof.Rows L2 AM
theorem c_f__wall : ckF xs fs f__wall (top 0) [] [] = true := by decide +kernel
theorem c_f_beneath : ckF xs fs f_beneath (top 2) [] [] = true := by decide +kernel
theorem c_f_gathered : ckF xs fs f_gathered (top 3) [] [] = true := by decide +kernel
theorem c_f_is_name : ckF xs fs f_is_name (top 13) [] [] = true := by decide +kernel
theorem c_f_l_cell : ckF xs fs f_l_cell (top 20) [] [] = true := by decide +kernel
theorem c_f_l_mix : ckF xs fs f_l_mix (top 21) [] [] = true := by decide +kernel
theorem c_f_l_name : ckF xs fs f_l_name (top 22) [] [] = true := by decide +kernel
theorem c_f_l_whole : ckF xs fs f_l_whole (top 23) [] [] = true := by decide +kernel
theorem c_f_l_same_row : ckF xs fs f_l_same_row (top 24) [] [] = true := by decide +kernel
theorem c_f_l_under : ckF xs fs f_l_under (top 25) [] [] = true := by decide +kernel
theorem c_f_l_deep : ckF xs fs f_l_deep (top 26) [] [] = true := by decide +kernel
theorem c_f_l_put : ckF xs fs f_l_put (top 27) [] [] = true := by decide +kernel
theorem c_f_l_moved : ckF xs fs f_l_moved (top 28) [] [] = true := by decide +kernel
theorem c_f_l_missing : ckF xs fs f_l_missing (top 29) ["_law_missing.<locals>.<lambda>"] [("_law_missing@0", f_l_missing_i0)] = true := by decide +kernel
theorem c_f_l_tried : ckF xs fs f_l_tried (top 30) ["_law_tried.<locals>.<lambda>"] [("_law_tried@0", f_l_tried_i0), ("_law_tried@1", f_l_tried_i1), ("_law_tried@2", f_l_tried_i2), ("_law_tried@3", f_l_tried_i3), ("_law_tried@4", f_l_tried_i4)] = true := by decide +kernel
theorem c_f_l_wanted : ckF xs fs f_l_wanted (top 31) [] [] = true := by decide +kernel
theorem c_f_law : ckF xs fs f_law (top 32) ["law.<locals>.<lambda>"] [("law@0", f_law_i0)] = true := by decide +kernel
theorem c_f_Box_init : ckF xs fs f_Box_init (meth 17 0) [] [] = true := by decide +kernel
theorem c_f_Tree_init : ckF xs fs f_Tree_init (meth 18 0) [] [] = true := by decide +kernel
theorem c_f_Tree_found : ckF xs fs f_Tree_found (meth 18 1) [] [] = true := by decide +kernel
theorem c_f_Tree_with_all : ckF xs fs f_Tree_with_all (meth 18 2) [] [] = true := by decide +kernel
theorem c_f_Tree_put : ckF xs fs f_Tree_put (meth 18 3) [] [] = true := by decide +kernel
theorem c_f_Tree_cut : ckF xs fs f_Tree_cut (meth 18 4) [] [] = true := by decide +kernel
theorem c_f_Tree_move : ckF xs fs f_Tree_move (meth 18 5) [] [] = true := by decide +kernel
theorem c_f_Tree_mark : ckF xs fs f_Tree_mark (meth 18 6) [] [] = true := by decide +kernel
theorem c_f_Tree_bare : ckF xs fs f_Tree_bare (meth 18 7) [] [] = true := by decide +kernel
theorem c_f_Tree_write : ckF xs fs f_Tree_write (meth 18 8) [] [] = true := by decide +kernel
theorem c_f_Tree_dress : ckF xs fs f_Tree_dress (meth 18 9) [] [] = true := by decide +kernel
theorem c_f_Tree_stands : ckF xs fs f_Tree_stands (meth 18 10) [] [] = true := by decide +kernel
theorem c_f_Tree_name_of : ckF xs fs f_Tree_name_of (meth 18 11) [] [] = true := by decide +kernel
theorem c_f_Tree_marks_of : ckF xs fs f_Tree_marks_of (meth 18 12) [] [] = true := by decide +kernel
theorem c_f_Tree_words_of : ckF xs fs f_Tree_words_of (meth 18 13) [] [] = true := by decide +kernel
theorem c_f_Tree_rows_of : ckF xs fs f_Tree_rows_of (meth 18 14) [] [] = true := by decide +kernel
theorem c_f_Tree_holder_of : ckF xs fs f_Tree_holder_of (meth 18 15) [] [] = true := by decide +kernel
theorem c_f_Tree_boxes_of : ckF xs fs f_Tree_boxes_of (meth 18 16) [] [] = true := by decide +kernel
theorem exOk {K : PySem.W.Frag} (h : ex K = true) (i : Nat) {b : Bool} (hb : ([decide (PySem.W.findIn K (.ref (He.ga K "NoName")) "__getattribute__" = some (some (.builtin "BaseException.__getattribute__"))),
  decide (PySem.W.findIn K (.ref (He.ga K "NoName")) "__getattr__" = some none),
  decide (PySem.W.subIn K (.ref (He.ga K "NoName")) (.type "BaseException") = some true),
  PySem.W.hasDictIn K (He.ga K "NoName"),
  decide (PySem.W.findIn K (.ref (He.ga K "NoName")) "__class__" = some (some (.builtin "object.__class__"))),
  decide (PySem.W.specialIn K (.builtin "object.__class__") "__get__" = some (some (.builtin "getset_descriptor.__get__"))),
  decide (PySem.W.takesIn K (.builtin "object.__class__") = some true),
  decide (PySem.W.mroIn K (He.ga K "NoName") (.type "object") = some true),
  decide (PySem.W.kitOne K (.ref (He.ga K "NoName")) (.ref (He.ga K "NoBox")) = some false),
  decide (PySem.W.exmOne K (.ref (He.ga K "NoName")) (.ref (He.ga K "NoBox")) = some false),
  decide (PySem.W.findIn K (.ref (He.ga K "NoBox")) "__getattribute__" = some (some (.builtin "BaseException.__getattribute__"))),
  decide (PySem.W.findIn K (.ref (He.ga K "NoBox")) "__getattr__" = some none),
  decide (PySem.W.subIn K (.ref (He.ga K "NoBox")) (.type "BaseException") = some true),
  PySem.W.hasDictIn K (He.ga K "NoBox"),
  decide (PySem.W.findIn K (.ref (He.ga K "NoBox")) "__class__" = some (some (.builtin "object.__class__"))),
  decide (PySem.W.mroIn K (He.ga K "NoBox") (.type "object") = some true),
  decide (PySem.W.kitOne K (.ref (He.ga K "NoBox")) (.ref (He.ga K "NoBox")) = some true),
  decide (PySem.W.exmOne K (.ref (He.ga K "NoBox")) (.ref (He.ga K "NoBox")) = some true),
  decide (PySem.W.findIn K (.ref (He.ga K "NoPlace")) "__getattribute__" = some (some (.builtin "BaseException.__getattribute__"))),
  decide (PySem.W.findIn K (.ref (He.ga K "NoPlace")) "__getattr__" = some none),
  decide (PySem.W.subIn K (.ref (He.ga K "NoPlace")) (.type "BaseException") = some true),
  PySem.W.hasDictIn K (He.ga K "NoPlace"),
  decide (PySem.W.findIn K (.ref (He.ga K "NoPlace")) "__class__" = some (some (.builtin "object.__class__"))),
  decide (PySem.W.mroIn K (He.ga K "NoPlace") (.type "object") = some true),
  decide (PySem.W.kitOne K (.ref (He.ga K "NoPlace")) (.ref (He.ga K "NoBox")) = some false),
  decide (PySem.W.exmOne K (.ref (He.ga K "NoPlace")) (.ref (He.ga K "NoBox")) = some false),
  decide (PySem.W.findIn K (.ref (He.ga K "TooMuch")) "__getattribute__" = some (some (.builtin "BaseException.__getattribute__"))),
  decide (PySem.W.findIn K (.ref (He.ga K "TooMuch")) "__getattr__" = some none),
  decide (PySem.W.subIn K (.ref (He.ga K "TooMuch")) (.type "BaseException") = some true),
  PySem.W.hasDictIn K (He.ga K "TooMuch"),
  decide (PySem.W.findIn K (.ref (He.ga K "TooMuch")) "__class__" = some (some (.builtin "object.__class__"))),
  decide (PySem.W.mroIn K (He.ga K "TooMuch") (.type "object") = some true),
  decide (PySem.W.kitOne K (.ref (He.ga K "TooMuch")) (.ref (He.ga K "NoBox")) = some false),
  decide (PySem.W.exmOne K (.ref (He.ga K "TooMuch")) (.ref (He.ga K "NoBox")) = some false),
  decide (PySem.W.findIn K (.ref (He.ga K "Rooted")) "__getattribute__" = some (some (.builtin "BaseException.__getattribute__"))),
  decide (PySem.W.findIn K (.ref (He.ga K "Rooted")) "__getattr__" = some none),
  decide (PySem.W.subIn K (.ref (He.ga K "Rooted")) (.type "BaseException") = some true),
  PySem.W.hasDictIn K (He.ga K "Rooted"),
  decide (PySem.W.findIn K (.ref (He.ga K "Rooted")) "__class__" = some (some (.builtin "object.__class__"))),
  decide (PySem.W.mroIn K (He.ga K "Rooted") (.type "object") = some true),
  decide (PySem.W.kitOne K (.ref (He.ga K "Rooted")) (.ref (He.ga K "NoBox")) = some false),
  decide (PySem.W.exmOne K (.ref (He.ga K "Rooted")) (.ref (He.ga K "NoBox")) = some false),
  decide ((He.cT K ("_law_missing", none)).2 ≠ (He.cT K ("_law_tried", none)).2),
  decide ((He.cT K ("_law_missing", none)).2 ≠ (He.cT K ("law", none)).2),
  decide ((He.cT K ("_law_tried", none)).2 ≠ (He.cT K ("law", none)).2)] : List Bool)[i]? = some b := by rfl) : b = true := List.all_eq_true.mp h b (List.mem_of_getElem? hb)
theorem D_f__wall {K : PySem.W.Frag} (c : He.SaysD fa fn K) : ∃ fd, DefOk K T fs xs (lamCs lamT K) "_wall" (He.fAd K ("_wall", none)) f__wall fd :=
  have ⟨fd, F⟩ := c.def_ 0 (d := d_f__wall) rfl
  ⟨fd, top 0, _, _, [], [], rfl, F, FunD.bindsN F (fun _ _ _ _ _ _ us hl => match us, hl with | [_], _ => rfl), c_f__wall, (fun _ h => by cases h), fnil⟩
theorem D_f_beneath {K : PySem.W.Frag} (c : He.SaysD fa fn K) : ∃ fd, DefOk K T fs xs (lamCs lamT K) "beneath" (He.fAd K ("beneath", none)) f_beneath fd :=
  have ⟨fd, F⟩ := c.def_ 1 (d := d_f_beneath) rfl
  ⟨fd, top 2, _, _, [], [], rfl, F, FunD.bindsN F (fun _ _ _ _ _ _ us hl => match us, hl with | [_, _], _ => rfl), c_f_beneath, (fun _ h => by cases h), fnil⟩
theorem D_f_gathered {K : PySem.W.Frag} (c : He.SaysD fa fn K) : ∃ fd, DefOk K T fs xs (lamCs lamT K) "gathered" (He.fAd K ("gathered", none)) f_gathered fd :=
  have ⟨fd, F⟩ := c.def_ 2 (d := d_f_gathered) rfl
  ⟨fd, top 3, _, _, [], [], rfl, F, FunD.bindsN F (fun _ _ _ _ _ _ us hl => match us, hl with | [_, _, _], _ => rfl), c_f_gathered, (fun _ h => by cases h), fnil⟩
theorem D_f_is_name {K : PySem.W.Frag} (c : He.SaysD fa fn K) : ∃ fd, DefOk K T fs xs (lamCs lamT K) "is_name" (He.fAd K ("is_name", none)) f_is_name fd :=
  have ⟨fd, F⟩ := c.def_ 3 (d := d_f_is_name) rfl
  ⟨fd, top 13, _, _, [], [], rfl, F, FunD.bindsN F (fun _ _ _ _ _ _ us hl => match us, hl with | [_], _ => rfl), c_f_is_name, (fun _ h => by cases h), fnil⟩
theorem D_f_l_cell {K : PySem.W.Frag} (c : He.SaysD fa fn K) : ∃ fd, DefOk K T fs xs (lamCs lamT K) "_law_cell" (He.fAd K ("_law_cell", none)) f_l_cell fd :=
  have ⟨fd, F⟩ := c.def_ 4 (d := d_f_l_cell) rfl
  ⟨fd, top 20, _, _, [], [], rfl, F, FunD.bindsN F (fun _ _ _ _ _ _ us hl => match us, hl with | [_, _], _ => rfl), c_f_l_cell, (fun _ h => by cases h), fnil⟩
theorem D_f_l_mix {K : PySem.W.Frag} (c : He.SaysD fa fn K) : ∃ fd, DefOk K T fs xs (lamCs lamT K) "_law_mix" (He.fAd K ("_law_mix", none)) f_l_mix fd :=
  have ⟨fd, F⟩ := c.def_ 5 (d := d_f_l_mix) rfl
  ⟨fd, top 21, _, _, [], [], rfl, F, FunD.bindsN F (fun _ _ _ _ _ _ us hl => match us, hl with | [_, _], _ => rfl), c_f_l_mix, (fun _ h => by cases h), fnil⟩
theorem D_f_l_name {K : PySem.W.Frag} (c : He.SaysD fa fn K) : ∃ fd, DefOk K T fs xs (lamCs lamT K) "_law_name" (He.fAd K ("_law_name", none)) f_l_name fd :=
  have ⟨fd, F⟩ := c.def_ 6 (d := d_f_l_name) rfl
  ⟨fd, top 22, _, _, [], [], rfl, F, FunD.bindsN F (fun _ _ _ _ _ _ us hl => match us, hl with | [_, _], _ => rfl), c_f_l_name, (fun _ h => by cases h), fnil⟩
theorem D_f_l_whole {K : PySem.W.Frag} (c : He.SaysD fa fn K) : ∃ fd, DefOk K T fs xs (lamCs lamT K) "_law_whole" (He.fAd K ("_law_whole", none)) f_l_whole fd :=
  have ⟨fd, F⟩ := c.def_ 7 (d := d_f_l_whole) rfl
  ⟨fd, top 23, _, _, [], [], rfl, F, FunD.bindsN F (fun _ _ _ _ _ _ us hl => match us, hl with | [_], _ => rfl), c_f_l_whole, (fun _ h => by cases h), fnil⟩
theorem D_f_l_same_row {K : PySem.W.Frag} (c : He.SaysD fa fn K) : ∃ fd, DefOk K T fs xs (lamCs lamT K) "_law_same_row" (He.fAd K ("_law_same_row", none)) f_l_same_row fd :=
  have ⟨fd, F⟩ := c.def_ 8 (d := d_f_l_same_row) rfl
  ⟨fd, top 24, _, _, [], [], rfl, F, FunD.bindsN F (fun _ _ _ _ _ _ us hl => match us, hl with | [_, _], _ => rfl), c_f_l_same_row, (fun _ h => by cases h), fnil⟩
theorem D_f_l_under {K : PySem.W.Frag} (c : He.SaysD fa fn K) : ∃ fd, DefOk K T fs xs (lamCs lamT K) "_law_under" (He.fAd K ("_law_under", none)) f_l_under fd :=
  have ⟨fd, F⟩ := c.def_ 9 (d := d_f_l_under) rfl
  ⟨fd, top 25, _, _, [], [], rfl, F, FunD.bindsN F (fun _ _ _ _ _ _ us hl => match us, hl with | [_, _], _ => rfl), c_f_l_under, (fun _ h => by cases h), fnil⟩
theorem D_f_l_deep {K : PySem.W.Frag} (c : He.SaysD fa fn K) : ∃ fd, DefOk K T fs xs (lamCs lamT K) "_law_deep" (He.fAd K ("_law_deep", none)) f_l_deep fd :=
  have ⟨fd, F⟩ := c.def_ 10 (d := d_f_l_deep) rfl
  ⟨fd, top 26, _, _, [], [], rfl, F, FunD.bindsN F (fun _ _ _ _ _ _ us hl => match us, hl with | [_, _], _ => rfl), c_f_l_deep, (fun _ h => by cases h), fnil⟩
theorem D_f_l_put {K : PySem.W.Frag} (c : He.SaysD fa fn K) : ∃ fd, DefOk K T fs xs (lamCs lamT K) "_law_put" (He.fAd K ("_law_put", none)) f_l_put fd :=
  have ⟨fd, F⟩ := c.def_ 11 (d := d_f_l_put) rfl
  ⟨fd, top 27, _, _, [], [], rfl, F, FunD.bindsN F (fun _ _ _ _ _ _ us hl => match us, hl with | [_, _, _, _, _, _], _ => rfl), c_f_l_put, (fun _ h => by cases h), fnil⟩
theorem D_f_l_moved {K : PySem.W.Frag} (c : He.SaysD fa fn K) : ∃ fd, DefOk K T fs xs (lamCs lamT K) "_law_moved" (He.fAd K ("_law_moved", none)) f_l_moved fd :=
  have ⟨fd, F⟩ := c.def_ 12 (d := d_f_l_moved) rfl
  ⟨fd, top 28, _, _, [], [], rfl, F, FunD.bindsN F (fun _ _ _ _ _ _ us hl => match us, hl with | [_, _, _, _, _], _ => rfl), c_f_l_moved, (fun _ h => by cases h), fnil⟩
theorem D_f_l_missing {K : PySem.W.Frag} (c : He.SaysD fa fn K) : ∃ fd, DefOk K T fs xs (lamCs lamT K) "_law_missing" (He.fAd K ("_law_missing", none)) f_l_missing fd :=
  have ⟨fd, F⟩ := c.def_ 13 (d := d_f_l_missing) rfl
  ⟨fd, top 29, _, _, ["_law_missing.<locals>.<lambda>"], [("_law_missing@0", f_l_missing_i0)], rfl, F, FunD.bindsN F (fun _ _ _ _ _ _ us hl => match us, hl with | [_, _], _ => rfl), c_f_l_missing, (fun x hx => ⟨(List.mem_singleton.mp hx).symm ▸ (by decide +kernel), _, (List.mem_singleton.mp hx).symm ▸ List.mem_map.mpr ⟨_, List.mem_of_getElem? (i := 0) rfl, rfl⟩, AM.code_ok F⟩), fcons rfl (fnil)⟩
theorem D_f_l_tried {K : PySem.W.Frag} (c : He.SaysD fa fn K) : ∃ fd, DefOk K T fs xs (lamCs lamT K) "_law_tried" (He.fAd K ("_law_tried", none)) f_l_tried fd :=
  have ⟨fd, F⟩ := c.def_ 14 (d := d_f_l_tried) rfl
  ⟨fd, top 30, _, _, ["_law_tried.<locals>.<lambda>"], [("_law_tried@0", f_l_tried_i0), ("_law_tried@1", f_l_tried_i1), ("_law_tried@2", f_l_tried_i2), ("_law_tried@3", f_l_tried_i3), ("_law_tried@4", f_l_tried_i4)], rfl, F, FunD.bindsN F (fun _ _ _ _ _ _ us hl => match us, hl with | [_, _, _, _, _, _, _, _], _ => rfl), c_f_l_tried, (fun x hx => ⟨(List.mem_singleton.mp hx).symm ▸ (by decide +kernel), _, (List.mem_singleton.mp hx).symm ▸ List.mem_map.mpr ⟨_, List.mem_of_getElem? (i := 1) rfl, rfl⟩, AM.code_ok F⟩), fcons rfl (fcons rfl (fcons rfl (fcons rfl (fcons rfl (fnil)))))⟩
theorem D_f_l_wanted {K : PySem.W.Frag} (c : He.SaysD fa fn K) : ∃ fd, DefOk K T fs xs (lamCs lamT K) "_law_wanted" (He.fAd K ("_law_wanted", none)) f_l_wanted fd :=
  have ⟨fd, F⟩ := c.def_ 15 (d := d_f_l_wanted) rfl
  ⟨fd, top 31, _, _, [], [], rfl, F, FunD.bindsN F (fun _ _ _ _ _ _ us hl => match us, hl with | [_, _, _, _, _, _], _ => rfl), c_f_l_wanted, (fun _ h => by cases h), fnil⟩
theorem D_f_law {K : PySem.W.Frag} (c : He.SaysD fa fn K) : ∃ fd, DefOk K T fs xs (lamCs lamT K) "law" (He.fAd K ("law", none)) f_law fd :=
  have ⟨fd, F⟩ := c.def_ 16 (d := d_f_law) rfl
  ⟨fd, top 32, _, _, ["law.<locals>.<lambda>"], [("law@0", f_law_i0)], rfl, F, FunD.bindsN F (fun _ _ _ _ _ _ us hl => match us, hl with | [_], _ => rfl), c_f_law, (fun x hx => ⟨(List.mem_singleton.mp hx).symm ▸ (by decide +kernel), _, (List.mem_singleton.mp hx).symm ▸ List.mem_map.mpr ⟨_, List.mem_of_getElem? (i := 2) rfl, rfl⟩, AM.code_ok F⟩), fcons rfl (fnil)⟩
theorem D_f_Box_init {K : PySem.W.Frag} (c : He.SaysD fa fn K) : ∃ fd, DefOk K T fs xs (lamCs lamT K) "Box.__init__" (He.fAd K ("Box", some "__init__")) f_Box_init fd :=
  have ⟨fd, F⟩ := c.def_ 17 (d := d_f_Box_init) rfl
  ⟨fd, meth 17 0, _, _, [], [], rfl, F, FunD.bindsN F (fun _ _ _ _ _ _ us hl => match us, hl with | [_, _, _, _], _ => rfl), c_f_Box_init, (fun _ h => by cases h), fnil⟩
theorem D_f_Tree_init {K : PySem.W.Frag} (c : He.SaysD fa fn K) : ∃ fd, DefOk K T fs xs (lamCs lamT K) "Tree.__init__" (He.fAd K ("Tree", some "__init__")) f_Tree_init fd :=
  have ⟨fd, F⟩ := c.def_ 18 (d := d_f_Tree_init) rfl
  ⟨fd, meth 18 0, _, _, [], [], rfl, F, FunD.bindsN F (fun _ _ _ _ _ _ us hl => match us, hl with | [_, _], _ => rfl), c_f_Tree_init, (fun _ h => by cases h), fnil⟩
theorem D_f_Tree_found {K : PySem.W.Frag} (c : He.SaysD fa fn K) : ∃ fd, DefOk K T fs xs (lamCs lamT K) "Tree.found" (He.fAd K ("Tree", some "found")) f_Tree_found fd :=
  have ⟨fd, F⟩ := c.def_ 19 (d := d_f_Tree_found) rfl
  ⟨fd, meth 18 1, _, _, [], [], rfl, F, FunD.bindsN F (fun _ _ _ _ _ _ us hl => match us, hl with | [_, _], _ => rfl), c_f_Tree_found, (fun _ h => by cases h), fnil⟩
theorem D_f_Tree_with_all {K : PySem.W.Frag} (c : He.SaysD fa fn K) : ∃ fd, DefOk K T fs xs (lamCs lamT K) "Tree.with_all" (He.fAd K ("Tree", some "with_all")) f_Tree_with_all fd :=
  have ⟨fd, F⟩ := c.def_ 20 (d := d_f_Tree_with_all) rfl
  ⟨fd, meth 18 2, _, _, [], [], rfl, F, FunD.bindsN F (fun _ _ _ _ _ _ us hl => match us, hl with | [_, _], _ => rfl), c_f_Tree_with_all, (fun _ h => by cases h), fnil⟩
theorem D_f_Tree_put {K : PySem.W.Frag} (c : He.SaysD fa fn K) : ∃ fd, DefOk K T fs xs (lamCs lamT K) "Tree.put" (He.fAd K ("Tree", some "put")) f_Tree_put fd :=
  have ⟨fd, F⟩ := c.def_ 21 (d := d_f_Tree_put) rfl
  ⟨fd, meth 18 3, _, _, [], [], rfl, F, FunD.bindsN F (fun _ _ _ _ _ _ us hl => match us, hl with | [_, _, _, _], _ => rfl), c_f_Tree_put, (fun _ h => by cases h), fnil⟩
theorem D_f_Tree_cut {K : PySem.W.Frag} (c : He.SaysD fa fn K) : ∃ fd, DefOk K T fs xs (lamCs lamT K) "Tree.cut" (He.fAd K ("Tree", some "cut")) f_Tree_cut fd :=
  have ⟨fd, F⟩ := c.def_ 22 (d := d_f_Tree_cut) rfl
  ⟨fd, meth 18 4, _, _, [], [], rfl, F, FunD.bindsN F (fun _ _ _ _ _ _ us hl => match us, hl with | [_, _], _ => rfl), c_f_Tree_cut, (fun _ h => by cases h), fnil⟩
theorem D_f_Tree_move {K : PySem.W.Frag} (c : He.SaysD fa fn K) : ∃ fd, DefOk K T fs xs (lamCs lamT K) "Tree.move" (He.fAd K ("Tree", some "move")) f_Tree_move fd :=
  have ⟨fd, F⟩ := c.def_ 23 (d := d_f_Tree_move) rfl
  ⟨fd, meth 18 5, _, _, [], [], rfl, F, FunD.bindsN F (fun _ _ _ _ _ _ us hl => match us, hl with | [_, _, _, _], _ => rfl), c_f_Tree_move, (fun _ h => by cases h), fnil⟩
theorem D_f_Tree_mark {K : PySem.W.Frag} (c : He.SaysD fa fn K) : ∃ fd, DefOk K T fs xs (lamCs lamT K) "Tree.mark" (He.fAd K ("Tree", some "mark")) f_Tree_mark fd :=
  have ⟨fd, F⟩ := c.def_ 24 (d := d_f_Tree_mark) rfl
  ⟨fd, meth 18 6, _, _, [], [], rfl, F, FunD.bindsN F (fun _ _ _ _ _ _ us hl => match us, hl with | [_, _, _], _ => rfl), c_f_Tree_mark, (fun _ h => by cases h), fnil⟩
theorem D_f_Tree_bare {K : PySem.W.Frag} (c : He.SaysD fa fn K) : ∃ fd, DefOk K T fs xs (lamCs lamT K) "Tree.bare" (He.fAd K ("Tree", some "bare")) f_Tree_bare fd :=
  have ⟨fd, F⟩ := c.def_ 25 (d := d_f_Tree_bare) rfl
  ⟨fd, meth 18 7, _, _, [], [], rfl, F, FunD.bindsN F (fun _ _ _ _ _ _ us hl => match us, hl with | [_, _, _], _ => rfl), c_f_Tree_bare, (fun _ h => by cases h), fnil⟩
theorem D_f_Tree_write {K : PySem.W.Frag} (c : He.SaysD fa fn K) : ∃ fd, DefOk K T fs xs (lamCs lamT K) "Tree.write" (He.fAd K ("Tree", some "write")) f_Tree_write fd :=
  have ⟨fd, F⟩ := c.def_ 26 (d := d_f_Tree_write) rfl
  ⟨fd, meth 18 8, _, _, [], [], rfl, F, FunD.bindsN F (fun _ _ _ _ _ _ us hl => match us, hl with | [_, _, _], _ => rfl), c_f_Tree_write, (fun _ h => by cases h), fnil⟩
theorem D_f_Tree_dress {K : PySem.W.Frag} (c : He.SaysD fa fn K) : ∃ fd, DefOk K T fs xs (lamCs lamT K) "Tree.dress" (He.fAd K ("Tree", some "dress")) f_Tree_dress fd :=
  have ⟨fd, F⟩ := c.def_ 27 (d := d_f_Tree_dress) rfl
  ⟨fd, meth 18 9, _, _, [], [], rfl, F, FunD.bindsN F (fun _ _ _ _ _ _ us hl => match us, hl with | [_, _, _], _ => rfl), c_f_Tree_dress, (fun _ h => by cases h), fnil⟩
theorem D_f_Tree_stands {K : PySem.W.Frag} (c : He.SaysD fa fn K) : ∃ fd, DefOk K T fs xs (lamCs lamT K) "Tree.stands" (He.fAd K ("Tree", some "stands")) f_Tree_stands fd :=
  have ⟨fd, F⟩ := c.def_ 28 (d := d_f_Tree_stands) rfl
  ⟨fd, meth 18 10, _, _, [], [], rfl, F, FunD.bindsN F (fun _ _ _ _ _ _ us hl => match us, hl with | [_, _], _ => rfl), c_f_Tree_stands, (fun _ h => by cases h), fnil⟩
theorem D_f_Tree_name_of {K : PySem.W.Frag} (c : He.SaysD fa fn K) : ∃ fd, DefOk K T fs xs (lamCs lamT K) "Tree.name_of" (He.fAd K ("Tree", some "name_of")) f_Tree_name_of fd :=
  have ⟨fd, F⟩ := c.def_ 29 (d := d_f_Tree_name_of) rfl
  ⟨fd, meth 18 11, _, _, [], [], rfl, F, FunD.bindsN F (fun _ _ _ _ _ _ us hl => match us, hl with | [_, _], _ => rfl), c_f_Tree_name_of, (fun _ h => by cases h), fnil⟩
theorem D_f_Tree_marks_of {K : PySem.W.Frag} (c : He.SaysD fa fn K) : ∃ fd, DefOk K T fs xs (lamCs lamT K) "Tree.marks_of" (He.fAd K ("Tree", some "marks_of")) f_Tree_marks_of fd :=
  have ⟨fd, F⟩ := c.def_ 30 (d := d_f_Tree_marks_of) rfl
  ⟨fd, meth 18 12, _, _, [], [], rfl, F, FunD.bindsN F (fun _ _ _ _ _ _ us hl => match us, hl with | [_, _], _ => rfl), c_f_Tree_marks_of, (fun _ h => by cases h), fnil⟩
theorem D_f_Tree_words_of {K : PySem.W.Frag} (c : He.SaysD fa fn K) : ∃ fd, DefOk K T fs xs (lamCs lamT K) "Tree.words_of" (He.fAd K ("Tree", some "words_of")) f_Tree_words_of fd :=
  have ⟨fd, F⟩ := c.def_ 31 (d := d_f_Tree_words_of) rfl
  ⟨fd, meth 18 13, _, _, [], [], rfl, F, FunD.bindsN F (fun _ _ _ _ _ _ us hl => match us, hl with | [_, _], _ => rfl), c_f_Tree_words_of, (fun _ h => by cases h), fnil⟩
theorem D_f_Tree_rows_of {K : PySem.W.Frag} (c : He.SaysD fa fn K) : ∃ fd, DefOk K T fs xs (lamCs lamT K) "Tree.rows_of" (He.fAd K ("Tree", some "rows_of")) f_Tree_rows_of fd :=
  have ⟨fd, F⟩ := c.def_ 32 (d := d_f_Tree_rows_of) rfl
  ⟨fd, meth 18 14, _, _, [], [], rfl, F, FunD.bindsN F (fun _ _ _ _ _ _ us hl => match us, hl with | [_, _], _ => rfl), c_f_Tree_rows_of, (fun _ h => by cases h), fnil⟩
theorem D_f_Tree_holder_of {K : PySem.W.Frag} (c : He.SaysD fa fn K) : ∃ fd, DefOk K T fs xs (lamCs lamT K) "Tree.holder_of" (He.fAd K ("Tree", some "holder_of")) f_Tree_holder_of fd :=
  have ⟨fd, F⟩ := c.def_ 33 (d := d_f_Tree_holder_of) rfl
  ⟨fd, meth 18 15, _, _, [], [], rfl, F, FunD.bindsN F (fun _ _ _ _ _ _ us hl => match us, hl with | [_, _], _ => rfl), c_f_Tree_holder_of, (fun _ h => by cases h), fnil⟩
theorem D_f_Tree_boxes_of {K : PySem.W.Frag} (c : He.SaysD fa fn K) : ∃ fd, DefOk K T fs xs (lamCs lamT K) "Tree.boxes_of" (He.fAd K ("Tree", some "boxes_of")) f_Tree_boxes_of fd :=
  have ⟨fd, F⟩ := c.def_ 34 (d := d_f_Tree_boxes_of) rfl
  ⟨fd, meth 18 16, _, _, [], [], rfl, F, FunD.bindsN F (fun _ _ _ _ _ _ us hl => match us, hl with | [_, _], _ => rfl), c_f_Tree_boxes_of, (fun _ h => by cases h), fnil⟩
theorem facts {w : World} {K : PySem.W.Frag} {h : Heap} {mg : Str → Option Value} (X : K.In h) (G : h.Ns mainGlobals mg) (c : He.SaysD fa fn K) (hx : ex K = true) (ct : He.SaysT fa fn tsx w K) : Facts w K mg (He.ga K) T fs xs (lamCs lamT K) where
  fn := fcons (have ⟨fd, D⟩ := D_f__wall c; ⟨_, _, fd, He.glo_ok X G (c.fact 0 (f := .glo "_wall") rfl), D⟩) (fcons (have ⟨fd, D⟩ := D_f_beneath c; ⟨_, _, fd, He.glo_ok X G (c.fact 1 (f := .glo "beneath") rfl), D⟩) (fcons (have ⟨fd, D⟩ := D_f_gathered c; ⟨_, _, fd, He.glo_ok X G (c.fact 2 (f := .glo "gathered") rfl), D⟩) (fcons (have ⟨fd, D⟩ := D_f_is_name c; ⟨_, _, fd, He.glo_ok X G (c.fact 3 (f := .glo "is_name") rfl), D⟩) (fcons (have ⟨fd, D⟩ := D_f_l_cell c; ⟨_, _, fd, He.glo_ok X G (c.fact 4 (f := .glo "_law_cell") rfl), D⟩) (fcons (have ⟨fd, D⟩ := D_f_l_mix c; ⟨_, _, fd, He.glo_ok X G (c.fact 5 (f := .glo "_law_mix") rfl), D⟩) (fcons (have ⟨fd, D⟩ := D_f_l_name c; ⟨_, _, fd, He.glo_ok X G (c.fact 6 (f := .glo "_law_name") rfl), D⟩) (fcons (have ⟨fd, D⟩ := D_f_l_whole c; ⟨_, _, fd, He.glo_ok X G (c.fact 7 (f := .glo "_law_whole") rfl), D⟩) (fcons (have ⟨fd, D⟩ := D_f_l_same_row c; ⟨_, _, fd, He.glo_ok X G (c.fact 8 (f := .glo "_law_same_row") rfl), D⟩) (fcons (have ⟨fd, D⟩ := D_f_l_under c; ⟨_, _, fd, He.glo_ok X G (c.fact 9 (f := .glo "_law_under") rfl), D⟩) (fcons (have ⟨fd, D⟩ := D_f_l_deep c; ⟨_, _, fd, He.glo_ok X G (c.fact 10 (f := .glo "_law_deep") rfl), D⟩) (fcons (have ⟨fd, D⟩ := D_f_l_put c; ⟨_, _, fd, He.glo_ok X G (c.fact 11 (f := .glo "_law_put") rfl), D⟩) (fcons (have ⟨fd, D⟩ := D_f_l_moved c; ⟨_, _, fd, He.glo_ok X G (c.fact 12 (f := .glo "_law_moved") rfl), D⟩) (fcons (have ⟨fd, D⟩ := D_f_l_missing c; ⟨_, _, fd, He.glo_ok X G (c.fact 13 (f := .glo "_law_missing") rfl), D⟩) (fcons (have ⟨fd, D⟩ := D_f_l_tried c; ⟨_, _, fd, He.glo_ok X G (c.fact 14 (f := .glo "_law_tried") rfl), D⟩) (fcons (have ⟨fd, D⟩ := D_f_l_wanted c; ⟨_, _, fd, He.glo_ok X G (c.fact 15 (f := .glo "_law_wanted") rfl), D⟩) (fcons (have ⟨fd, D⟩ := D_f_law c; ⟨_, _, fd, He.glo_ok X G (c.fact 16 (f := .glo "law") rfl), D⟩) (fnil)))))))))))))))))
  blt := fcons (He.free_ok X G (c.fact 17 (f := .free "len") rfl)) (fcons (He.free_ok X G (c.fact 18 (f := .free "abs") rfl)) (fcons (He.free_ok X G (c.fact 19 (f := .free "isinstance") rfl)) (fcons (He.free_ok X G (c.fact 20 (f := .free "int") rfl)) (fcons (He.free_ok X G (c.fact 21 (f := .free "bool") rfl)) (fcons (He.free_ok X G (c.fact 22 (f := .free "str") rfl)) (fcons (He.free_ok X G (c.fact 23 (f := .free "tuple") rfl)) (fcons (He.free_ok X G (c.fact 24 (f := .free "list") rfl)) (fcons (He.free_ok X G (c.fact 25 (f := .free "dict") rfl)) (fcons (He.free_ok X G (c.fact 26 (f := .free "range") rfl)) (fcons (He.free_ok X G (c.fact 27 (f := .free "max") rfl)) (fcons (He.free_ok X G (c.fact 28 (f := .free "min") rfl)) (fcons (He.free_ok X G (c.fact 29 (f := .free "sum") rfl)) (fcons (He.free_ok X G (c.fact 30 (f := .free "sorted") rfl)) (fcons (He.free_ok X G (c.fact 31 (f := .free "reversed") rfl)) (fcons (He.free_ok X G (c.fact 32 (f := .free "enumerate") rfl)) (fcons (He.free_ok X G (c.fact 33 (f := .free "zip") rfl)) (fcons (He.free_ok X G (c.fact 34 (f := .free "all") rfl)) (fcons (He.free_ok X G (c.fact 35 (f := .free "any") rfl)) (fcons (He.free_ok X G (c.fact 36 (f := .free "ord") rfl)) (fnil))))))))))))))))))))
  exc := fcons (have ⟨e1, e2, e3, e4⟩ := He.exc_ok (c.fact 38 (f := .exc "HouseError") rfl); ⟨He.glo_ok X G (c.fact 37 (f := .glo "HouseError") rfl), e1, e2, e3, e4⟩) (fcons (have ⟨e1, e2, e3, e4⟩ := He.exc_ok (c.fact 40 (f := .exc "NoBox") rfl); ⟨He.glo_ok X G (c.fact 39 (f := .glo "NoBox") rfl), e1, e2, e3, e4⟩) (fcons (have ⟨e1, e2, e3, e4⟩ := He.exc_ok (c.fact 42 (f := .exc "Rooted") rfl); ⟨He.glo_ok X G (c.fact 41 (f := .glo "Rooted") rfl), e1, e2, e3, e4⟩) (fcons (have ⟨e1, e2, e3, e4⟩ := He.exc_ok (c.fact 44 (f := .exc "NoPlace") rfl); ⟨He.glo_ok X G (c.fact 43 (f := .glo "NoPlace") rfl), e1, e2, e3, e4⟩) (fcons (have ⟨e1, e2, e3, e4⟩ := He.exc_ok (c.fact 46 (f := .exc "NoName") rfl); ⟨He.glo_ok X G (c.fact 45 (f := .glo "NoName") rfl), e1, e2, e3, e4⟩) (fcons (have ⟨e1, e2, e3, e4⟩ := He.exc_ok (c.fact 48 (f := .exc "TooMuch") rfl); ⟨He.glo_ok X G (c.fact 47 (f := .glo "TooMuch") rfl), e1, e2, e3, e4⟩) (fnil))))))
  glo := fcons (have ⟨u, e⟩ := He.str_ok X G (c.fact 49 (f := .str "LETTERS" "abcdefghijklmnopqrstuvwxyz") rfl); ⟨_, .str "abcdefghijklmnopqrstuvwxyz", e, ⟨u, rfl⟩, fun _ _ => rfl⟩) (fcons (have ⟨u, e⟩ := He.int_ok X G (c.fact 50 (f := .int "MOST_BOXES" 90) rfl); ⟨_, .int 90, e, ⟨u, rfl⟩, fun _ _ => rfl⟩) (fcons (have ⟨u, e⟩ := He.int_ok X G (c.fact 51 (f := .int "MOST_DEEP" 12) rfl); ⟨_, .int 12, e, ⟨u, rfl⟩, fun _ _ => rfl⟩) (fnil)))
  noat := fcons (⟨He.cls_ok (c.fact 53 (f := .cls "Box") rfl), He.noat_ok (c.fact 54 (f := .noat "Box" "name") rfl)⟩) (fcons (⟨He.cls_ok (c.fact 53 (f := .cls "Box") rfl), He.noat_ok (c.fact 55 (f := .noat "Box" "holder") rfl)⟩) (fcons (⟨He.cls_ok (c.fact 53 (f := .cls "Box") rfl), He.noat_ok (c.fact 56 (f := .noat "Box" "deep") rfl)⟩) (fcons (⟨He.cls_ok (c.fact 53 (f := .cls "Box") rfl), He.noat_ok (c.fact 57 (f := .noat "Box" "row") rfl)⟩) (fcons (⟨He.cls_ok (c.fact 53 (f := .cls "Box") rfl), He.noat_ok (c.fact 58 (f := .noat "Box" "marks") rfl)⟩) (fcons (⟨He.cls_ok (c.fact 53 (f := .cls "Box") rfl), He.noat_ok (c.fact 59 (f := .noat "Box" "words") rfl)⟩) (fcons (⟨He.cls_ok (c.fact 53 (f := .cls "Box") rfl), He.noat_ok (c.fact 60 (f := .noat "Box" "own") rfl)⟩) (fcons (⟨He.cls_ok (c.fact 63 (f := .cls "Tree") rfl), He.noat_ok (c.fact 64 (f := .noat "Tree" "standing") rfl)⟩) (fcons (⟨He.cls_ok (c.fact 63 (f := .cls "Tree") rfl), He.noat_ok (c.fact 65 (f := .noat "Tree" "coming") rfl)⟩) (fnil)))))))))
  meth := fcons (have ⟨fd, D⟩ := D_f_Tree_found c; ⟨He.cls_ok (c.fact 63 (f := .cls "Tree") rfl), He.ma K (He.ga K "Tree") "found", _, fd, He.meth_ok (c.fact 66 (f := .meth "Tree" "found") rfl), D⟩) (fcons (have ⟨fd, D⟩ := D_f_Tree_with_all c; ⟨He.cls_ok (c.fact 63 (f := .cls "Tree") rfl), He.ma K (He.ga K "Tree") "with_all", _, fd, He.meth_ok (c.fact 67 (f := .meth "Tree" "with_all") rfl), D⟩) (fcons (have ⟨fd, D⟩ := D_f_Tree_put c; ⟨He.cls_ok (c.fact 63 (f := .cls "Tree") rfl), He.ma K (He.ga K "Tree") "put", _, fd, He.meth_ok (c.fact 68 (f := .meth "Tree" "put") rfl), D⟩) (fcons (have ⟨fd, D⟩ := D_f_Tree_cut c; ⟨He.cls_ok (c.fact 63 (f := .cls "Tree") rfl), He.ma K (He.ga K "Tree") "cut", _, fd, He.meth_ok (c.fact 69 (f := .meth "Tree" "cut") rfl), D⟩) (fcons (have ⟨fd, D⟩ := D_f_Tree_move c; ⟨He.cls_ok (c.fact 63 (f := .cls "Tree") rfl), He.ma K (He.ga K "Tree") "move", _, fd, He.meth_ok (c.fact 70 (f := .meth "Tree" "move") rfl), D⟩) (fcons (have ⟨fd, D⟩ := D_f_Tree_mark c; ⟨He.cls_ok (c.fact 63 (f := .cls "Tree") rfl), He.ma K (He.ga K "Tree") "mark", _, fd, He.meth_ok (c.fact 71 (f := .meth "Tree" "mark") rfl), D⟩) (fcons (have ⟨fd, D⟩ := D_f_Tree_bare c; ⟨He.cls_ok (c.fact 63 (f := .cls "Tree") rfl), He.ma K (He.ga K "Tree") "bare", _, fd, He.meth_ok (c.fact 72 (f := .meth "Tree" "bare") rfl), D⟩) (fcons (have ⟨fd, D⟩ := D_f_Tree_write c; ⟨He.cls_ok (c.fact 63 (f := .cls "Tree") rfl), He.ma K (He.ga K "Tree") "write", _, fd, He.meth_ok (c.fact 73 (f := .meth "Tree" "write") rfl), D⟩) (fcons (have ⟨fd, D⟩ := D_f_Tree_dress c; ⟨He.cls_ok (c.fact 63 (f := .cls "Tree") rfl), He.ma K (He.ga K "Tree") "dress", _, fd, He.meth_ok (c.fact 74 (f := .meth "Tree" "dress") rfl), D⟩) (fcons (have ⟨fd, D⟩ := D_f_Tree_stands c; ⟨He.cls_ok (c.fact 63 (f := .cls "Tree") rfl), He.ma K (He.ga K "Tree") "stands", _, fd, He.meth_ok (c.fact 75 (f := .meth "Tree" "stands") rfl), D⟩) (fcons (have ⟨fd, D⟩ := D_f_Tree_name_of c; ⟨He.cls_ok (c.fact 63 (f := .cls "Tree") rfl), He.ma K (He.ga K "Tree") "name_of", _, fd, He.meth_ok (c.fact 76 (f := .meth "Tree" "name_of") rfl), D⟩) (fcons (have ⟨fd, D⟩ := D_f_Tree_marks_of c; ⟨He.cls_ok (c.fact 63 (f := .cls "Tree") rfl), He.ma K (He.ga K "Tree") "marks_of", _, fd, He.meth_ok (c.fact 77 (f := .meth "Tree" "marks_of") rfl), D⟩) (fcons (have ⟨fd, D⟩ := D_f_Tree_words_of c; ⟨He.cls_ok (c.fact 63 (f := .cls "Tree") rfl), He.ma K (He.ga K "Tree") "words_of", _, fd, He.meth_ok (c.fact 78 (f := .meth "Tree" "words_of") rfl), D⟩) (fcons (have ⟨fd, D⟩ := D_f_Tree_rows_of c; ⟨He.cls_ok (c.fact 63 (f := .cls "Tree") rfl), He.ma K (He.ga K "Tree") "rows_of", _, fd, He.meth_ok (c.fact 79 (f := .meth "Tree" "rows_of") rfl), D⟩) (fcons (have ⟨fd, D⟩ := D_f_Tree_holder_of c; ⟨He.cls_ok (c.fact 63 (f := .cls "Tree") rfl), He.ma K (He.ga K "Tree") "holder_of", _, fd, He.meth_ok (c.fact 80 (f := .meth "Tree" "holder_of") rfl), D⟩) (fcons (have ⟨fd, D⟩ := D_f_Tree_boxes_of c; ⟨He.cls_ok (c.fact 63 (f := .cls "Tree") rfl), He.ma K (He.ga K "Tree") "boxes_of", _, fd, He.meth_ok (c.fact 81 (f := .meth "Tree" "boxes_of") rfl), D⟩) (fnil))))))))))))))))
  init := fcons (have ⟨fd, D⟩ := D_f_Box_init c; ⟨He.glo_ok X G (c.fact 52 (f := .glo "Box") rfl), (He.mkr_ok (c.fact 61 (f := .mkr "Box") rfl)).kp, He.ma K (He.ga K "Box") "__init__", _, fd, He.mkr_ok (c.fact 61 (f := .mkr "Box") rfl), D⟩) (fcons (have ⟨fd, D⟩ := D_f_Tree_init c; ⟨He.glo_ok X G (c.fact 62 (f := .glo "Tree") rfl), (He.mkr_ok (c.fact 82 (f := .mkr "Tree") rfl)).kp, He.ma K (He.ga K "Tree") "__init__", _, fd, He.mkr_ok (c.fact 82 (f := .mkr "Tree") rfl), D⟩) (fnil))
  isa := fnil
  gdc := fnil
  xk := fcons (⟨.ref (He.ga K "NoBox"), .ref (He.ga K "NoBox"), .own _, .inl (He.glo_ok X G (c.fact 39 (f := .glo "NoBox") rfl)), ⟨of_decide_eq_true (exOk hx 0), of_decide_eq_true (exOk hx 1), of_decide_eq_true (exOk hx 2), exOk hx 3, of_decide_eq_true (exOk hx 4), of_decide_eq_true (exOk hx 5), of_decide_eq_true (exOk hx 6), of_decide_eq_true (exOk hx 7)⟩, of_decide_eq_true (exOk hx 8), of_decide_eq_true (exOk hx 9)⟩) (fcons (⟨.ref (He.ga K "NoBox"), .ref (He.ga K "NoBox"), .own _, .inl (He.glo_ok X G (c.fact 39 (f := .glo "NoBox") rfl)), ⟨of_decide_eq_true (exOk hx 10), of_decide_eq_true (exOk hx 11), of_decide_eq_true (exOk hx 12), exOk hx 13, of_decide_eq_true (exOk hx 14), of_decide_eq_true (exOk hx 5), of_decide_eq_true (exOk hx 6), of_decide_eq_true (exOk hx 15)⟩, of_decide_eq_true (exOk hx 16), of_decide_eq_true (exOk hx 17)⟩) (fcons (⟨.ref (He.ga K "NoBox"), .ref (He.ga K "NoBox"), .own _, .inl (He.glo_ok X G (c.fact 39 (f := .glo "NoBox") rfl)), ⟨of_decide_eq_true (exOk hx 18), of_decide_eq_true (exOk hx 19), of_decide_eq_true (exOk hx 20), exOk hx 21, of_decide_eq_true (exOk hx 22), of_decide_eq_true (exOk hx 5), of_decide_eq_true (exOk hx 6), of_decide_eq_true (exOk hx 23)⟩, of_decide_eq_true (exOk hx 24), of_decide_eq_true (exOk hx 25)⟩) (fcons (⟨.ref (He.ga K "NoBox"), .ref (He.ga K "NoBox"), .own _, .inl (He.glo_ok X G (c.fact 39 (f := .glo "NoBox") rfl)), ⟨of_decide_eq_true (exOk hx 26), of_decide_eq_true (exOk hx 27), of_decide_eq_true (exOk hx 28), exOk hx 29, of_decide_eq_true (exOk hx 30), of_decide_eq_true (exOk hx 5), of_decide_eq_true (exOk hx 6), of_decide_eq_true (exOk hx 31)⟩, of_decide_eq_true (exOk hx 32), of_decide_eq_true (exOk hx 33)⟩) (fcons (⟨.ref (He.ga K "NoBox"), .ref (He.ga K "NoBox"), .own _, .inl (He.glo_ok X G (c.fact 39 (f := .glo "NoBox") rfl)), ⟨of_decide_eq_true (exOk hx 34), of_decide_eq_true (exOk hx 35), of_decide_eq_true (exOk hx 36), exOk hx 37, of_decide_eq_true (exOk hx 38), of_decide_eq_true (exOk hx 5), of_decide_eq_true (exOk hx 6), of_decide_eq_true (exOk hx 39)⟩, of_decide_eq_true (exOk hx 40), of_decide_eq_true (exOk hx 41)⟩) (fnil)))))
end Hd
open PySem PySem.W PySem.Calls PyProof.Rows
set_option maxHeartbeats 0 in
theorem PySem.Challenge.cw_stylehouse_k13_gathered_holds : PySem.Challenge.rw_stylehouse_k13_gathered.Holds := by
  w_on; o_law
  refine HandSHeadRun.head_any (r := OpenLaw.row PySem.Challenge.rw_stylehouse_k13_gathered) (q := view (OpenLaw.row PySem.Challenge.rw_stylehouse_k13_gathered).prog [32]) (H := Hd.hk) (ob := Hd.ob) (M := 4000) (loose := Hd.loose) (d := HandSHeadRun.topDef (OpenLaw.row PySem.Challenge.rw_stylehouse_k13_gathered).prog 32) (kwd := []) Hd.ob_eq
    (by kernel_rfl) (fun s => by kernel_rfl) Hd.run (by kernel_rfl) (by kernel_rfl) (by kernel_rfl) (by rfl) (by first | assumption | decide +kernel) (by decide +kernel) ⟨rfl, rfl, rfl, rfl, rfl, by decide +kernel⟩ ?hw ?hc
  case hw => w_witness2
  case hc =>
    refine LamX.walk_ofTsE (l := PySem.Challenge.rw_stylehouse_k13_gathered) (n := 63) (k := 2 * 9) (x := "_law_script") (CX := fun w => L2.CX (PySem.Challenge.rw_stylehouse_k13_gathered).prog w) rfl (by decide) (by kernel_rfl) ⟨rfl, by decide, by decide⟩ ?F ?X
    case X =>
      intro w H s e s' h
      obtain ⟨_, _, _, _, _, _, _, _, _, _, _, _, z⟩ := h
      exact z.elim
    intro w mg fa h Y G hmg0
    obtain ⟨K, KX, c⟩ := Y
    have hmg : mg ("law" : PySem.Str) = some (.ref fa) := by
      have e : (HandSHeadRun.topDef (OpenLaw.row PySem.Challenge.rw_stylehouse_k13_gathered).prog 32).name = ("law" : PySem.Str) := by kernel_rfl
      rw [← e]
      exact hmg0
    have Fx := Hd.facts KX G c.t.d c.more c.t
    obtain ⟨fd, F⟩ := c.t.d.def_ 16 (d := Hd.d_f_law) rfl
    have e := hmg.symm.trans (He.glo_ok KX G (c.t.d.fact 16 (f := .glo "law") rfl))
    cases e
    have b := L2.FunD.bindsA (ps := ["_law_script"]) F fun _ _ _ _ _ _ us hl => match us, hl with | [_], _ => rfl
    have hn : (Hd.lamT.map (·.1)).Nodup := by decide +kernel
    refine ⟨K, KX, fd, Hd.lamT.map (fun p => He.cT K p.2), AM.spI K (AM.cAl Hd.lamT K) (AM.orc Hd.T 9) "law", fun p hp => ?_, fun p hp => ?_, fun p hp => ?_, fun s v => b s [v] rfl, fun H a ns hl hb hT hS => ?_, fun base KB GB TB => ?_⟩
    · obtain ⟨z, hz, rfl⟩ := List.mem_map.mp hp
      exact c.empty z.2 (List.mem_map.mpr ⟨z, hz, rfl⟩)
    · obtain ⟨z, hz, rfl⟩ := List.mem_map.mp hp
      exact c.out z.2 (List.mem_map.mpr ⟨z, hz, rfl⟩)
    · obtain ⟨z, hz, rfl⟩ := List.mem_map.mp hp
      exact PySem.W.codeHd_of_K KX (c.hd z.2 (List.mem_map.mpr ⟨z, hz, rfl⟩))
    · refine AM.law_okT (ts := AM.lamTs Hd.lamT K) (AM.lamTs_ok hn) (show List.Nodup [(He.cT K ("_law_missing", none)).2, (He.cT K ("_law_tried", none)).2, (He.cT K ("law", none)).2] from by simp only [List.nodup_cons, List.mem_cons, List.not_mem_nil, or_false, not_or, List.nodup_nil, not_false_eq_true, and_true]; exact ⟨⟨of_decide_eq_true (Hd.exOk c.more 42), of_decide_eq_true (Hd.exOk c.more 43)⟩, of_decide_eq_true (Hd.exOk c.more 44)⟩) (fun p hp => ?_) hS (LawProof.law_holds ns hl hb)
      obtain ⟨z, hz, rfl⟩ := List.mem_map.mp hp
      exact hT _ (List.mem_map.mpr ⟨z, hz, rfl⟩)
    · exact AM.fn_ok (P := (PySem.Challenge.rw_stylehouse_k13_gathered).prog) (w := w) (base := base) (AM.Facts.ofGa Fx (AM.cAl_ga (by decide +kernel))) (AM.lamCs_ok hn TB) 9 "law" _ f_law fd ⟨Hd.top 32, _, _, ["law.<locals>.<lambda>"], [("law@0", Hd.f_law_i0)], rfl, F, L2.FunD.bindsN F (fun _ _ _ _ _ _ us hl => match us, hl with | [_], _ => rfl), Hd.c_f_law, (fun x hx => ⟨(List.mem_singleton.mp hx).symm ▸ (by decide +kernel), _, (List.mem_singleton.mp hx).symm ▸ List.mem_map.mpr ⟨_, List.mem_of_getElem? (i := 2) rfl, rfl⟩, AM.code_ok F⟩), AM.fcons rfl (AM.fnil)⟩
end
#print axioms PySem.Challenge.cw_stylehouse_k13_gathered_holds
