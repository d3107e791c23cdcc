import PyProof.Rows.All
import Wide.All
import OpenK.AllK
import Wide.FinOn
import HandS.Words
import HandS.Ends
import HandS.EndBits
import HandS.Defaults
import HandS.Head0
import HandS.Head1
import HandS.Head2
import HandS.HeadEnd
import HandS.HeadHook1
import HandS.HeadHook2
import HandS.HeadHook3
import HandS.HeadHook4
import HandS.EndTab
import HandS.HeadWalk
import HandS.Lambda
import HandS.SortKw
import KE.SortKeyHeap
import KE.DataFind
import HandS.ForMost
import HandS.ForExc
import HandS.Wide
import HandS.IsInst
import HandS.Walk
import HandS.Deep
import HandS.Steps
import HandS.SortInts
import HandS.TryOnly
import HandS.More
import HandS.Rev
import HandS.Dict
import KE.DataMinMax
import HandS.New0
import HandS.Conv
import HandS.NestedK
import KE.KEqNest
import KE.KEqDict
import KE.KDictLaw
import PyProof.NeKinds
import HandS.List
import HandS.TupLe
import HandS.TupAny
import HandS.ExcIs
import KE.DataCmp
import KE.KRevIter
import HandS.RevTup
import KE.GoesMore
import PyProof.Rows.CallKwBuiltin
import HandS.CallSlots
import HandS.FStr
import HandS.SetFor
import HandS.RevRange
import HandS.Flow
import KE.DatumOrd
import HandS.Codes
import PySem.Challenge.RW_stylehouse_k47_values_written
set_option Elab.async false
section
set_option linter.all false
set_option maxRecDepth 100000
set_option maxHeartbeats 4000000
/-! AM, the head's looks: over the whole heap, no search for what is reached. -/
namespace AM
open PySem L2 PyProof.Rows He

/-- a world by one of the model's choices -/
def w1 (b : Bool) (w : World) : World := { w with params := { w.params with followText := fun r => if r == "special-get-raises" then b else w.params.followText r } }
theorem w1_eq (w : World) : w1 (w.params.followText "special-get-raises") w = w := by
  have h : (fun r => if r == "special-get-raises" then w.params.followText "special-get-raises" else w.params.followText r) = w.params.followText := by
    funext r
    by_cases e : r = "special-get-raises"
    · subst e; simp
    · simp [e]
  unfold w1
  rw [h]
/-- an entry of a written dict: a tuple of plain things -/
def entB (K : PySem.W.Frag) (A : Addr) (s : Str) (vs : List He.Dv) : Bool := match PySem.W.nsIn K A s with
  | some (some (.ref a)) => (match K.lookup a with
    | some o => (match o.cls, o.data with
      | .type c, .seq its _ => decide (c = "tuple") && decide (its.size ≤ sizeLine) && He.relAll (vs.map (He.Dv.v K)) its.toList
      | _, _ => false)
    | none => false)
  | _ => false
theorem entB_ok {K : PySem.W.Frag} {A : Addr} {s : Str} {vs : List He.Dv} (h : entB K A s vs = true) : ∃ a, PySem.W.nsIn K A s = some (some (.ref a)) ∧ ∀ H, SqT K H a (vs.map (He.Dv.v K)) := by
  unfold entB at h
  split at h
  · rename_i a e
    refine ⟨a, e, fun H => ?_⟩
    split at h
    · rename_i o ho
      split at h
      · rename_i c its n hc hd
        obtain ⟨h12, h3⟩ := ba h
        obtain ⟨h1, h2⟩ := ba h12
        exact .inr ⟨o, its, n, ho, by rw [hc, of_decide_eq_true h1], hd, of_decide_eq_true h2, He.relAll_ok h3⟩
      · cases h
    · cases h
  · cases h
/-! ### the Hook -/
/-- the numbers below n, the greatest first -/
def downs : Nat → List Addr
  | 0 => []
  | n + 1 => n :: downs n
/-- all addresses, the module's first -/
def asZ (n : Nat) : List Addr := mainGlobals :: downs n
def obsZ (fa : List Fa) (fn : List DefD) (ts : List He.Tab) (tf : List Defn) (ex : PySem.W.Frag → Bool) (n : Nat) (g : Addr → Option Obj) : AlX := (obsT fa fn ts (frT g (asZ n)), ex (frT g (asZ n)) && tabsB g tf (frT g (asZ n)))
theorem saysZ_of {n : Nat} {fa : List Fa} {fn : List DefD} {ts : List He.Tab} {tf : List Defn} {ex : PySem.W.Frag → Bool} {w : World} {h : Heap} (e : obsZ fa fn ts tf ex n h.get? = valX fn ts w) : SaysX fa fn ts tf ex w h (frT h.get? (asZ n)) := by
  have e1 : obsT fa fn ts (frT h.get? (asZ n)) = valT fn ts w := congrArg (fun z : AlX => z.1) e
  have e2 : (ex (frT h.get? (asZ n)) && tabsB h.get? tf (frT h.get? (asZ n))) = true := congrArg (fun z : AlX => z.2) e
  obtain ⟨h1, h2⟩ := He.ba e2
  have key : ∀ p ∈ tf, PySem.W.codeHdIn (frT h.get? (asZ n)) (cT (frT h.get? (asZ n)) p).1 (cT (frT h.get? (asZ n)) p).2 = true ∧ ∃ o, h.get? (cT (frT h.get? (asZ n)) p).2 = some o ∧ emptyTab o = true := fun p hp => by
    obtain ⟨h3, h4⟩ := He.ba (List.all_eq_true.mp h2 p hp)
    refine ⟨h3, ?_⟩
    cases q : h.get? (cT (frT h.get? (asZ n)) p).2 with
    | none =>
      rw [q] at h4
      cases h4
    | some o =>
      rw [q] at h4
      exact ⟨o, rfl, h4⟩
  exact ⟨e1, h1, fun p hp => (key p hp).1, fun p hp => by
    obtain ⟨_, o, q, z⟩ := key p hp
    exact frT_none q z, fun p hp => by
    obtain ⟨_, o, q, z⟩ := key p hp
    rw [q, emptyTab_eq z]⟩
def hookZ (fa : List Fa) (fn : List DefD) (ts : List He.Tab) (tf : List Defn) (ex : PySem.W.Frag → Bool) : PySem.W.Hook where
  α := AlX
  obs := fun s => obsZ fa fn ts tf ex s.heap.objs.size s.heap.get?
  val := fun w => valX fn ts w
  says := fun w h => ∃ K : PySem.W.Frag, K.In h ∧ SaysX fa fn ts tf ex w h K
  of := fun _ _ e => ⟨_, frT_in, saysZ_of e⟩
  keeps := fun _ _ _ ⟨K, hK, c⟩ k => ⟨K, PySem.W.Frag.In.keeps hK k, ⟨c.t, c.more, c.hd, c.out, fun p hp => k _ _ (c.empty p hp)⟩⟩
/-- .. off the tree -/
def obZ (fa : List Fa) (fn : List DefD) (ts : List He.Tab) (tf : List Defn) (ex : PySem.W.Frag → Bool) (s : PySem.W.SharedT) : AlX := HandSHeadRun.frNat s.n fun n => obsZ fa fn ts tf ex n (HandSHeadRun.getT s)
theorem obZ_eq (fa : List Fa) (fn : List DefD) (ts : List He.Tab) (tf : List Defn) (ex : PySem.W.Frag → Bool) (s : PySem.W.SharedT) : obZ fa fn ts tf ex s = (hookZ fa fn ts tf ex).obs s.abs := by
  unfold obZ
  rw [HandSHeadRun.frNat_eq]
  show obsZ fa fn ts tf ex s.n (HandSHeadRun.getT s) = obsZ fa fn ts tf ex s.abs.heap.objs.size s.abs.heap.get?
  rw [show HandSHeadRun.getT s = s.abs.heap.get? from funext (HandSHeadRun.getT_eq s), show s.abs.heap.objs.size = s.n from PySem.W.absHeap_size _ _ _]
end AM
end

section
set_option linter.all false
set_option maxRecDepth 100000
set_option maxHeartbeats 4000000
/-! the head, printed by gen.py -/
namespace Hd
open PySem PySem.Spec PyProof.Rows L2 AM
def top (i : Nat) : Stmt := PySem.Challenge.pw_stylehouse_k47_values_written.main.body.getD i (.Pass ⟨0, 0, 0, 0⟩)
def meth (i j : Nat) : Stmt := match top i with
  | .ClassDef _ _ _ b _ _ _ _ _ _ _ => b.getD j (.Pass ⟨0, 0, 0, 0⟩)
  | _ => .Pass ⟨0, 0, 0, 0⟩
def d_f_is_name : He.DefD := ⟨("is_name", none), "is_name", "is_name", defArgs (top 6), defBody (top 6), defScope (top 6), [], []⟩
def d_f_divisor : He.DefD := ⟨("divisor", none), "divisor", "divisor", defArgs (top 9), defBody (top 9), defScope (top 9), [], []⟩
def d_f_fraction : He.DefD := ⟨("fraction", none), "fraction", "fraction", defArgs (top 10), defBody (top 10), defScope (top 10), [], []⟩
def d_f_read_whole : He.DefD := ⟨("read_whole", none), "read_whole", "read_whole", defArgs (top 13), defBody (top 13), defScope (top 13), [], []⟩
def d_f_read_share : He.DefD := ⟨("read_share", none), "read_share", "read_share", defArgs (top 14), defBody (top 14), defScope (top 14), [], []⟩
def d_f_show_share : He.DefD := ⟨("show_share", none), "show_share", "show_share", defArgs (top 15), defBody (top 15), defScope (top 15), [], []⟩
def d_f_show_fraction : He.DefD := ⟨("show_fraction", none), "show_fraction", "show_fraction", defArgs (top 16), defBody (top 16), defScope (top 16), [], []⟩
def d_f_read_fraction : He.DefD := ⟨("read_fraction", none), "read_fraction", "read_fraction", defArgs (top 17), defBody (top 17), defScope (top 17), [], []⟩
def d_f_show_value : He.DefD := ⟨("show_value", none), "show_value", "show_value", defArgs (top 18), defBody (top 18), defScope (top 18), [], []⟩
def d_f_read_value : He.DefD := ⟨("read_value", none), "read_value", "read_value", defArgs (top 19), defBody (top 19), defScope (top 19), [], []⟩
def d_f_l_cell : He.DefD := ⟨("_law_cell", none), "_law_cell", "_law_cell", defArgs (top 21), defBody (top 21), defScope (top 21), [], []⟩
def d_f_l_mix : He.DefD := ⟨("_law_mix", none), "_law_mix", "_law_mix", defArgs (top 22), defBody (top 22), defScope (top 22), [], []⟩
def d_f_l_name : He.DefD := ⟨("_law_name", none), "_law_name", "_law_name", defArgs (top 23), defBody (top 23), defScope (top 23), [], []⟩
def d_f_l_whole : He.DefD := ⟨("_law_whole", none), "_law_whole", "_law_whole", defArgs (top 24), defBody (top 24), defScope (top 24), [], []⟩
def d_f_l_props : He.DefD := ⟨("_law_props", none), "_law_props", "_law_props", defArgs (top 25), defBody (top 25), defScope (top 25), [], []⟩
def d_f_l_share_text : He.DefD := ⟨("_law_share_text", none), "_law_share_text", "_law_share_text", defArgs (top 26), defBody (top 26), defScope (top 26), [], []⟩
def d_f_l_value_text : He.DefD := ⟨("_law_value_text", none), "_law_value_text", "_law_value_text", defArgs (top 27), defBody (top 27), defScope (top 27), [], []⟩
def d_f_l_noted : He.DefD := ⟨("_law_noted", none), "_law_noted", "_law_noted", defArgs (top 28), defBody (top 28), defScope (top 28), [], []⟩
def d_f_l_divisor : He.DefD := ⟨("_law_divisor", none), "_law_divisor", "_law_divisor", defArgs (top 29), defBody (top 29), defScope (top 29), [], []⟩
def d_f_l_lowest : He.DefD := ⟨("_law_lowest", none), "_law_lowest", "_law_lowest", defArgs (top 30), defBody (top 30), defScope (top 30), [], []⟩
def d_f_l_alike : He.DefD := ⟨("_law_alike", none), "_law_alike", "_law_alike", defArgs (top 31), defBody (top 31), defScope (top 31), [], []⟩
def d_f_law : He.DefD := ⟨("law", none), "law", "law", defArgs (top 32), defBody (top 32), defScope (top 32), [], []⟩
def fn : List He.DefD := [d_f_is_name, d_f_divisor, d_f_fraction, d_f_read_whole, d_f_read_share, d_f_show_share, d_f_show_fraction, d_f_read_fraction, d_f_show_value, d_f_read_value, d_f_l_cell, d_f_l_mix, d_f_l_name, d_f_l_whole, d_f_l_props, d_f_l_share_text, d_f_l_value_text, d_f_l_noted, d_f_l_divisor, d_f_l_lowest, d_f_l_alike, d_f_law]
def fa : List He.Fa := [.glo "is_name",
  .glo "divisor",
  .glo "fraction",
  .glo "read_whole",
  .glo "read_share",
  .glo "show_share",
  .glo "show_fraction",
  .glo "read_fraction",
  .glo "show_value",
  .glo "read_value",
  .glo "_law_cell",
  .glo "_law_mix",
  .glo "_law_name",
  .glo "_law_whole",
  .glo "_law_props",
  .glo "_law_share_text",
  .glo "_law_value_text",
  .glo "_law_noted",
  .glo "_law_divisor",
  .glo "_law_lowest",
  .glo "_law_alike",
  .glo "law",
  .free "len",
  .free "abs",
  .free "isinstance",
  .free "int",
  .free "bool",
  .free "str",
  .free "tuple",
  .free "list",
  .free "dict",
  .free "range",
  .free "max",
  .free "min",
  .free "sum",
  .free "sorted",
  .free "reversed",
  .free "enumerate",
  .free "zip",
  .free "all",
  .free "any",
  .free "ord",
  .glo "HouseError",
  .exc "HouseError",
  .glo "NoFraction",
  .exc "NoFraction",
  .glo "NoText",
  .exc "NoText",
  .str "LETTERS" "abcdefghijklmnopqrstuvwxyz",
  .glo "NUMBERS",
  .str "FIGURES" "0123456789"]
def ex (K : PySem.W.Frag) : Bool := ([He.tupB K "NUMBERS" [.str "size", .str "wide", .str "least", .str "most", .str "grow", .str "shrink", .str "gap", .str "pad", .str "tall"]] : List Bool).all id
abbrev fs : List Str := ["is_name", "divisor", "fraction", "read_whole", "read_share", "show_share", "show_fraction", "read_fraction", "show_value", "read_value", "_law_cell", "_law_mix", "_law_name", "_law_whole", "_law_props", "_law_share_text", "_law_value_text", "_law_noted", "_law_divisor", "_law_lowest", "_law_alike", "law"]
abbrev xs : List Str := ["HouseError", "NoFraction", "NoText"]
abbrev R : PySem.W.OpenRow := PySem.W.OpenLaw.row PySem.Challenge.rw_stylehouse_k47_values_written
abbrev tsx : List He.Tab := []
abbrev lamT : List (Str × He.Defn) := []
abbrev hk : PySem.W.Hook := AM.hookZ fa fn tsx (lamT.map (·.2)) ex
def ob (s : PySem.W.SharedT) : He.AlX := AM.obZ fa fn tsx (lamT.map (·.2)) ex s
theorem ob_eq (s : PySem.W.SharedT) : ob s = hk.obs s.abs := AM.obZ_eq _ _ _ _ _ s
def loose : List Str := (["HouseError", "NoFraction", "NoText", "LETTERS", "is_name", "NUMBERS", "divisor", "fraction", "FIGURES", "read_whole", "read_share", "show_share", "show_fraction", "read_fraction", "show_value", "read_value", "_law_cell", "_law_mix", "_law_name", "_law_whole", "_law_props", "_law_share_text", "_law_value_text", "_law_noted", "_law_divisor", "_law_lowest", "_law_alike"] : List Str)
theorem run (w : World) : HandSHeadRun.RunEq R (PySem.W.view R.prog [32]) hk ob 4000 loose w := by
  intro os
  kernel_rfl
end Hd
end

section
set_option linter.all false
set_option maxRecDepth 100000
set_option maxHeartbeats 2000000
/-! AM, own rules over the heap: sorted(e, key=lambda p: p[0], reverse=True), l.count(x). -/
namespace AM
open PySem PySem.Spec PyProof.Rows L2 LamX

/-! ### data of tuples -/
mutual
def tupD : PyData → Bool
  | .none => true
  | .bool _ => true
  | .int _ => true
  | .str _ => true
  | .tuple xs => tupDs xs
  | .list _ => false
  | .dict _ => false
def tupDs : List PyData → Bool
  | [] => true
  | x :: xs => tupD x && tupDs xs
end
mutual
theorem reads_nil {h : Heap} : ∀ (d : PyData) (v : Value) (as : List Addr), tupD d = true → Reads h v d as → as = []
  | .none, _, _, _, r => by cases r; rfl
  | .bool _, _, _, _, r => by cases r; rfl
  | .int _, _, _, _, r => by cases r; rfl
  | .str _, _, _, _, r => by cases r; rfl
  | .tuple xs, _, _, h1, r => by
    cases r with
    | tuple a b c d => exact reads_nils xs _ _ (by simpa only [tupD] using h1) d
  | .list _, _, _, h1, _ => by simp [tupD] at h1
  | .dict _, _, _, h1, _ => by simp [tupD] at h1
theorem reads_nils {h : Heap} : ∀ (ds : List PyData) (vs : List Value) (as : List Addr), tupDs ds = true → ReadsAll h vs ds as → as = []
  | [], _, _, _, r => by cases r; rfl
  | d :: ds, _, _, h1, r => by
    have h2 : tupD d = true ∧ tupDs ds = true := by simpa only [tupDs, Bool.and_eq_true] using h1
    cases r with
    | cons a b =>
      rw [reads_nil d _ _ h2.1 a, reads_nils ds _ _ h2.2 b]
      rfl
end

/-! ### a lambda is made -/
/-- the table at P: as it was, or with a new code object of the name q -/
def TabUp (P : Addr) (q : Str) (H H1 : Hp) : Prop := H1 = H ∨ ∃ (ps more : Array Value) (c' : Addr), H P = some (.tbl ps) ∧ H c' = none ∧ H1 = upd (upd H P (.tbl (ps ++ more))) c' (CodeO c' q) ∧ TriplesOk (ps ++ more).toList ∧
  ∀ (pos : Pos) (cv : Value), codeAmong pos (ps ++ more).toList = some cv → codeAmong pos ps.toList = some cv ∨ cv = .ref c'
/-- a function object -/
def LamO (f : Addr) (ob : Obj) : HO := .ext fun h => h.get? f = some ob
section
variable {X : Cx} {pins : List (Addr × Obj)} {σ : L2.St} {H : Hp} {s : Shared}
theorem inv_lam {ob : Obj} {h' : Heap} {t' : Nat} (hob : ob.isFreed = false) (I : Inv X pins σ H { s with heap := h', toks := t' }) : Inv X pins σ (upd H h'.objs.size (LamO h'.objs.size ob)) { s with heap := h'.push ob, toks := t' } := by
  refine I.laid (a := h'.objs.size) (fun b u e => Heap.get?_push_of_some _ e) (Nat.le_refl _) ?_
  have e : (h'.push ob).get? h'.objs.size = some ob := Heap.get?_push_size _ hob
  exact ⟨e, ⟨_, e⟩, fun h1 h2 z st => st _ z⟩
theorem lam_own {c P : Addr} {q : Str} {params : Arguments} {body : Expr} {scope : Scope} {pos : Pos} {E : Value → Shared → Prop} {Q : Value → Shared → Prop} (I : Inv X pins σ H s) (TB : TabB X.base X.mg c P) (hcode : X.env.code = .ref c)
    (hq : X.env.qual ++ "<lambda>" = q) (hT : TabS H P q) (hdef : defaultsOf params X.env = ([], [])) (hfree : ∀ y ∈ scope.names, y.2 = .free → ∃ c, X.env.cells.lookup y.1 = some c)
    (h : ∀ (f c' : Addr) (pm ctv : Value) (H1 : Hp) (s' : Shared), Inv X pins σ (upd H1 f (LamO f (PySem.W.kla_obj "<lambda>" q params body scope (cloFrom X.env.cells scope.names []) pm c' ctv))) s' → TabUp P q H H1 → H1 f = none →
      H1 c' = some (CodeO c' q) → Q (.ref f) s') :
    wpAny (model X.prog X.w) X.A (eval (.Lambda params body scope pos) X.env) Q E s := by
  subst hq
  obtain ⟨ps, hP, ht, ha⟩ := hT
  have bP : s.heap.BuiltinsAt X.mg P := TB.bm.keeps I.bk
  have hP' : s.heap.get? P = some { cls := .none, data := .fields ps } := I.hok P _ hP
  refine PySem.W.kla_eval hdef ?_
  cases hc : codeAmong pos ps.toList with
  | some cv =>
    obtain ⟨c', e, hco⟩ := ha pos cv hc
    subst e
    refine PySem.W.kla_makeFunctionHit (mg := X.mg) (c := c) (P := P) (ps := ps) (closure_ok hfree) I.ok.glob (I.mod.glob.keeps I.bk) hcode (TB.code.keeps I.bk) hP' ht hc bP fun ctv h' tk hx hsz => ?_
    have I1 : Inv X pins σ H { s with heap := h', toks := tk } := I.kept hx
    exact h h'.objs.size c' _ ctv H _ (inv_lam rfl I1) (.inl rfl) (I1.hok.fresh (Nat.le_refl _)) hco
  | none =>
    refine PySem.W.kla_makeFunction (mg := X.mg) (c := c) (P := P) (ps := ps) (closure_ok hfree) I.ok.glob (I.mod.glob.keeps I.bk) hcode (TB.code.keeps I.bk) hP' ht hc TB.gP bP fun c' ctv h' tk hx hge hlt hrec htb => ?_
    obtain ⟨c2, oc, vs, t, e2, hoc, hd, hv⟩ := hrec
    cases e2
    have nC : H c' = none := I.hok.fresh hge
    have eL : (ps ++ #[rawInt pos.line, rawInt pos.col, .ref c']).toList = ps.toList ++ [rawInt pos.line, rawInt pos.col, .ref c'] := by simp
    have I1 := inv_table (t' := tk) I hP (fun b o hb e => hx b o hb e) htb hge ⟨oc, vs, t, hoc, hd, hv⟩
    refine h h'.objs.size c' _ ctv _ _ (inv_lam rfl I1) (.inr ⟨ps, _, c', hP, nC, rfl, by rw [eL]; exact PySem.TriplesOk_snoc _ _ _ _ ht, fun p' cv hcv => ?_⟩) (I1.hok.fresh (Nat.le_refl _)) upd_same
    rw [eL] at hcv
    exact among_app _ ht hcv
end
section
variable {X : Cx}
/-- a lambda, as a value -/
def tLamb (P : Addr) (q : Str) (ob : Addr → Value → Value → Obj) : TE := fun _ H Q => TabS H P q ∧ ∀ (f c' : Addr) (pm ctv : Value) (H1 : Hp), TabUp P q H H1 → H1 f = none → H1 c' = some (CodeO c' q) → Q (.ref f) (upd H1 f (LamO f (ob c' pm ctv)))
theorem pe_lambda {c P : Addr} {q : Str} {params : Arguments} {body : Expr} {scope : Scope} {pos : Pos} (TB : TabB X.base X.mg c P) (hcode : X.env.code = .ref c) (hq : X.env.qual ++ "<lambda>" = q) (hdef : defaultsOf params X.env = ([], []))
    (hfree : ∀ y ∈ scope.names, y.2 ≠ .free) : PE X (.Lambda params body scope pos) (tLamb P q fun c' pm ctv => PySem.W.kla_obj "<lambda>" q params body scope (cloFrom X.env.cells scope.names []) pm c' ctv) :=
  ⟨fun pins s σ H Q I h => lam_own I TB hcode hq h.1 hdef (fun y hy e => absurd e (hfree y hy)) fun f c' pm ctv H1 s' I1 tu nf hc => ⟨.ref f, _, I1, rfl, h.2 f c' pm ctv H1 tu nf hc⟩⟩
end

/-! ### lambda p: p[0], called -/
/-- one parameter, no name more -/
structure LamS1 (x : Str) (scope : Scope) : Prop where
  kind : scope.kind = .function
  co : scope.isCoroutine = false
  gen : scope.isGenerator = false
  own : ∀ y ∈ scope.names, y.2 = .local
  par : scope.names.lookup x = some .local
section
variable {prog : Program} {w : World} {A : Around} {s : Shared}
theorem lam0_call {f c' t : Addr} {q x : Str} {params : Arguments} {scope : Scope} {clos : List (Str × Addr)} {pm ctv u : Value} {p1 p2 p3 : Pos} {j : Nat} {its : List Value} (L : LamS1 x scope)
    (ho : s.heap.get? f = some (PySem.W.kla_obj "<lambda>" q params (.Subscript (.Name x p1) (.Constant (.int 0) j p2) p3) scope clos pm c' ctv)) (hcd : s.heap.CodeRec (.ref c') q) (lim : s.heap.NoLimit) (hroom : A.depth < recursionLimit)
    (hbind : ∀ v, bindArgs (PySem.W.kla_fn "<lambda>" q params (.Subscript (.Name x p1) (.Constant (.int 0) j p2) p3) scope clos pm (.ref c') ctv) ⟨[v], []⟩ = pure [(x, v)]) (ht : IsTup s.heap t its.toArray) (hu : its[0]? = some u) (hd : (x == ("__debug__" : Str)) = false) :
    wpAny (model prog w) A (call (.ref f) [.ref t]) (fun v s' => v = u ∧ ∃ h' tk, s' = { s with heap := h', toks := tk } ∧ ∀ b o, s.heap.get? b = some o → h'.get? b = some o) (fun _ _ => False) s := by
  refine wpAny_call (PySem.W.kla_callFunE hroom ho rfl L.co L.gen rfl hcd ?_)
  rw [hbind]
  refine wpAny_pure (wpAny_newFunctionEnv (fun y hy e => ?_) (fun y hy => ?_) (fun h₁ hns hsb => ⟨lim.fresh _ hsb, ?_⟩) L.kind)
  · rw [L.own y hy] at e; cases e
  · rw [List.mem_singleton.mp hy]; exact L.par
  · have kp : ∀ b o, s.heap.get? b = some o → h₁.get? b = some o := fun b o e => hsb.extBut b o (Nat.ne_of_lt (Heap.lt_size e)) (Heap.get?_push_of_some _ e)
    have ht' : IsTup h₁ t its.toArray := by
      obtain ⟨o, e, c, n, d⟩ := ht
      exact ⟨o, kp _ _ e, c, n, d⟩
    refine PySem.W.kla_codeExpr ?_
    refine Subscript_ (wpAny_Name (wpAny_loadName_local L.kind L.par hns (v := .ref t) (by simp) ?_) hd)
    refine wpAny_Constant_int ?_
    refine item_tupleL (j := 0) ht' (by decide) (by decide) ?_ hu ?_
    · cases its with
      | nil => simp at hu
      | cons a r => first | rfl | simp [seqIndex?]
    · exact ⟨rfl, h₁, _, rfl, kp⟩
end

theorem bind1 {w q : Str} {ap : Pos} {body : Expr} {scope : Scope} {clos : List (Str × Addr)} {pm cv ctv v : Value} : bindArgs (PySem.W.kla_fn "<lambda>" q ⟨[], [⟨w, none, ap⟩], none, [], [], none, []⟩ body scope clos pm cv ctv) ⟨[v], []⟩ = pure [(w, v)] := by
  unfold bindArgs
  simp only [List.map_nil, List.map_cons, List.nil_append, List.zip_cons_cons, List.zip_nil_right, List.length_cons, List.length_nil]
  first | rfl | (simp [seqItems?, List.lookup]; done) | (simp [seqItems?, List.lookup]; rfl)

/-! ### sorted by it -/
/-- items are tuples whose first things are data alike -/
structure SortKey (K : PySem.W.Frag) (H : Hp) (bs : List (V × PyData)) : Prop where
  item : ∀ b ∈ bs, ∃ (t : Addr) (k : V) (r : List V), b.1 = .ref t ∧ SqT K H t (k :: r) ∧ Dp K H k b.2 ∧ tupD b.2 = true
  alike : PySem.W.AllAlike (bs.map (·.2))
  sort : PySem.W.Sortable (bs.map (·.2))
  deep : ∀ b ∈ bs, b.2.depth ≤ 60
def rSortK (K : PySem.W.Frag) (q : Str) (ob : Addr → Value → Value → Obj) : List V → List V → Hp → VK → Prop := fun vs zs H Q => ∃ (a f c' : Addr) (bs : List (V × PyData)) (pm ctv : Value), vs = [.ref a] ∧ zs = [.ref f, .bl true] ∧ H f = some (LamO f (ob c' pm ctv)) ∧ H c' = some (CodeO c' q) ∧
  SqL K H a (bs.map (·.1)) ∧ SortKey K H bs ∧ ∀ p : Addr, H p = none → Q (.ref p) (upd H p (.lst ((bs.mergeSort (PySem.W.dataLe true (·.2))).map (·.1))))
theorem each_of : ∀ {bs : List (V × PyData)} {us : List Value}, Vals (bs.map (·.1)) us → PySem.W.EachIs (fun u (b : V × PyData) => RelV b.1 u) us bs
  | [], _, r => by cases r; exact .nil
  | b :: bs, _, r => by
    cases r with
    | cons a t => exact .cons a (each_of t)
theorem each_to : ∀ {bs : List (V × PyData)} {us : List Value}, PySem.W.EachIs (fun u (b : V × PyData) => RelV b.1 u) us bs → Vals (bs.map (·.1)) us
  | _, _, .nil => .nil
  | _, _, .cons a t => .cons a (each_to t)
section
variable {X : Cx}
theorem cr_sortK {q x : Str} {params : Arguments} {scope : Scope} {clos : List (Str × Addr)} {p1 p2 p3 : Pos} {j k : Nat} (hr : Room k X.A) (hun : X.A.units + 65 < cLine) (L : LamS1 x scope) (hd : (x == ("__debug__" : Str)) = false)
    (hbind : ∀ (c' : Addr) (pm ctv v : Value), bindArgs (PySem.W.kla_fn "<lambda>" q params (.Subscript (.Name x p1) (.Constant (.int 0) j p2) p3) scope clos pm (.ref c') ctv) ⟨[v], []⟩ = pure [(x, v)]) :
    CallRK X (.builtin "sorted") [Str.ofString "key", Str.ofString "reverse"] (rSortK X.K q fun c' pm ctv => PySem.W.kla_obj "<lambda>" q params (.Subscript (.Name x p1) (.Constant (.int 0) j p2) p3) scope clos pm c' ctv) := by
  intro pins s σ H vs zs us ws Q I r rz h
  obtain ⟨a, f, c', bs, pm, ctv, rfl, rfl, hf, hc, hs, sk, hq⟩ := h
  obtain rfl := Vals.ref1 r
  obtain ⟨w1, w2, rfl, e1, e2⟩ := vals2 rz
  obtain rfl : w1 = Value.ref f := e1
  obtain rfl : w2 = Value.bool true := e2
  obtain ⟨its, rv, hl, hz⟩ := I.list hs
  obtain ⟨hfo, _, _⟩ := I.hok f _ hf
  have hfo : s.heap.get? f = some _ := hfo
  obtain ⟨⟨oc, us, tq, hco, hdc, hvc⟩, _, _⟩ := I.hok c' _ hc
  have hz' : bs.length ≤ sizeLine := by rw [List.length_map] at hz; exact hz
  have eA : X.A.in1.in1.depth < recursionLimit := hr.depth
  refine PySem.W.sorted_key_data (R := fun u (b : V × PyData) => RelV b.1 u) (bs := bs) (b := true) (·.2) hl.isList (each_of rv) sk.alike sk.sort hz' (fun b hb => by have := sk.deep b hb; omega) (PyProof.Rows.ksk_s2 _ _ _) (fun _ => PyProof.Rows.ksk_l2 _ _ _) (fun _ => PyProof.Rows.ksk_t2 _ _ _)
    (fun v b hv hb h tk kp => ?_) fun out n h' tk kp fr ho hlen eo => ?_
  · obtain ⟨t, kk, r, e, ht, hk, htd⟩ := sk.item b hb
    rw [e] at hv
    obtain rfl : v = Value.ref t := hv
    obtain ⟨it2, rv2, tup, _⟩ := I.tuple ht
    cases rv2 with
    | cons ru rt =>
      rename_i u ur
      obtain ⟨as, hread⟩ := Dp.reads I b.2 kk u hk ru
      obtain rfl := reads_nil b.2 u as htd hread
      refine wpAny_mono (lam0_call (A := X.A.in1.in1) (s := { s with heap := h, toks := tk }) (u := u) L (kp _ _ hfo) ⟨c', oc, us, tq, rfl, kp _ _ hco, hdc, hvc⟩ (I.nolimit.keeps kp) eA (hbind c' pm ctv) (its := u :: ur) ?_ rfl hd) ?_ (fun _ _ z => z)
      · obtain ⟨o, e1, e2, n, e3⟩ := tup
        exact ⟨o, kp _ _ e1, e2, n, e3⟩
      · rintro v s' ⟨rfl, h2, tk2, rfl, kp2⟩
        exact ⟨h2, tk2, rfl, kp2, PyProof.Rows.Reads.keeps (fun b o e => kp2 b o (kp b o e)) hread⟩
  · have hp := I.hok.fresh (a := s.heap.objs.size + 1) (Nat.le_succ _)
    refine ⟨.ref (s.heap.objs.size + 1), upd H (s.heap.objs.size + 1) (.lst ((bs.mergeSort (PySem.W.dataLe true (·.2))).map (·.1))), I.laid kp (Nat.le_succ _) ⟨?_, out, n, each_to eo, ho⟩, rfl, hq _ hp⟩
    rw [List.length_map, List.length_mergeSort]
    exact hz'
end
/-! ### l.count(x), data of any depth -/
def rCntD (K : PySem.W.Frag) : V → List V → Hp → VK → Prop := fun x xs H Q => ∃ (a : Addr) (y : V) (d : PyData) (ds : List PyData), x = V.ref a ∧ xs = [y] ∧ Dp K H (V.ref a) (.list ds) ∧ Dp K H y d ∧ SeqAt.shaped (.list ds) = true ∧ SeqAt.shaped d = true ∧
  Q (.int ((ds.countP fun z => PyData.eqv z d : Nat) : Int)) H
theorem mt_countD {X : Cx} (hu : X.A.units + 65 < cLine) : MtR X "list.count" (rCntD X.K) := by
  intro pins s σ H x xs v us Q I rx rxs h
  obtain ⟨a, y, d, ds, rfl, rfl, hl, hy, sl, sd, q⟩ := h
  cases rx
  cases rxs with
  | cons ry rt =>
    rename_i uy ut
    cases rt
    obtain ⟨bs, r1⟩ := Dp.reads I d y uy hy ry
    cases hl with
    | lst hs ha =>
      obtain ⟨its, rv, pl, _⟩ := I.list hs
      obtain ⟨as, h4⟩ := Dp.readsAll I ds _ its ha rv
      have hl2 : PyData.plain (.list ds) = true := PyData.plain_of_canLay0 _ (SeqAt.canLay_of_shaped sl)
      exact SeqAt.count_list_data (vs := its.toArray) pl.isList (by simpa using h4) r1 (by simpa only [PyData.plain] using hl2) (PyData.plain_of_canLay0 _ (SeqAt.canLay_of_shaped sd)) (room_in_shaped sd hu) ⟨.int ((ds.countP fun z => PyData.eqv z d : Nat) : Int), H, I.tok _, ⟨_, rfl⟩, q⟩
theorem sort_map {α β : Type} (f : α × PyData → β × PyData) (hf : ∀ a, (f a).2 = a.2) (l : List (α × PyData)) : (l.map f).mergeSort (PySem.W.dataLe true (·.2)) = (l.mergeSort (PySem.W.dataLe true (·.2))).map f := by
  refine (List.map_mergeSort (r := PySem.W.dataLe true (·.2)) (s := PySem.W.dataLe true (·.2)) (f := f) fun a _ b _ => ?_).symm
  unfold PySem.W.dataLe PySem.W.sortLe
  simp only [hf]
end AM
end

section
set_option linter.all false
set_option maxRecDepth 100000
/-! AM, first part: values, store, syntax, weakest preconditions. -/
namespace AM
open PySem L2 PyProof.Rows

/-- a function made within a def: its place, its code's, its key, its qualified name, what its cells hold -/
structure Clo where
  f : PySem.Addr
  c : PySem.Addr
  id : Str
  q : Str
  xs : List V
inductive Va where
  | non | bl (b : Bool) | int (i : Int) | str (x : Str)
  | tup (xs : List Va) | lst (xs : List Va) | dct (kvs : List (Key × Va)) | loc (n : Nat) | scr (ns : List Int) | exc (a : PySem.Addr) | fnv (z : Clo) (ws : List Va)

inductive Ob where
  | lst (xs : List Va) | dct (kvs : List (Key × Va)) | ins (C : Str) (fs : List (Str × Va)) | dead | lok (kvs : List (Key × Va)) | tab (q : Str)

abbrev Sto := List Ob
abbrev Env := List (Option Va)
abbrev PV := Va → Sto → Prop
abbrev PX := Str → Sto → Prop
abbrev PL := List Va → Sto → Prop

inductive Bop where | add | sub | mul | fdiv | mod | pow
  deriving DecidableEq
inductive Cop where | eq | ne | lt | le | gt | ge | isin | notin | isb | nisb | eqd | ned
  deriving DecidableEq
inductive Ty where | int | bool | str | tuple | list | dict
  deriving DecidableEq
mutual
inductive Tg where | name (i : Nat) | tup (ts : Tgs)
inductive Tgs where | nil | cons (t : Tg) (ts : Tgs)
end
inductive Bf where | list | tuple | sum | max1 | min1 | max2 | min2 | sorted | ord | str | int | all | any | dict | maxT
  deriving DecidableEq
inductive Mf where | append | pop | extend | insert | join | index | clear | remove | upper | partition | split | endswith | find | count
  deriving DecidableEq

mutual
inductive Ex where
  | var (i : Nat) | int (i : Int) | bl (b : Bool) | non | str (x : Str) | glob (x : Str)
  | tup (es : Exs) | lst (es : Exs)
  | bin (op : Bop) (a b : Ex) | neg (a : Ex)
  | cmp (op : Cop) (a b : Ex) | isN (a : Ex) | notN (a : Ex)
  | chain (op op' : Cop) (a b c : Ex) | chain3 (op op' op'' : Cop) (a b c d : Ex)
  | tst (t : Te)
  | ite (t : Te) (a b : Ex)
  | call (f : Str) (es : Exs)
  | len (a : Ex) | abs (a : Ex) | isi (a : Ex) (t : Ty)
  | sub (a i : Ex)
  | slice (a : Ex) (lo hi : Oe)
  | blt (f : Bf) (es : Exs)
  | mth (m : Mf) (o : Ex) (es : Exs)
  | comp (own : List Nat) (elt : Ex) (tg : Tg) (it : It) (cond : Tes0)
  | fld (o : Ex) (f : Str) | mcall (o : Ex) (m : Str) (es : Exs) | make (c : Str) (es : Exs) | make0 (c : Str)
  | isc (a : Ex) (x : Str) | isE (a : Ex) (x : Str) | isEt (a : Ex) (xs : List Str) | lrev (a : Ex) | maxd (a d : Ex) | sortk (a : Ex) (q : Str)
  | dsp (es : Exs) | get1 (o k : Ex) | get2 (o k d : Ex) | gget (x : Str) (k d : Ex) | dpop1 (o k : Ex) | dpop2 (o k d : Ex) | lck (e : Ex)
  | evens (a : Ex) | callv (i : Nat) (es : Exs) | callc (f : Str) (es : Exs) (id q : Str) (js : List Nat) | mcallc (o : Ex) (m : Str) (es : Exs) (id q : Str) (js : List Nat) | calld (f : Str) (es : Exs) | callk (f : Str) (es : Exs) (x : Str) (e : Ex) | callm (f : Str) (es : Exs) (mk : Str) (as : Exs) | fmt (a : Ex) | js (es : Exs)
inductive Oe where
  | none | some (e : Ex)
inductive It where
  | seq (e : Ex) | range1 (a : Ex) | range2 (a b : Ex) | enum (e : Ex) | zip (a b : Ex) | rev (e : Ex) | revr (a : Ex) | rangeD (a b : Ex) | keys (e : Ex) | items (e : Ex)
inductive Tes0 where
  | none | some (t : Te)
inductive Te where
  | val (e : Ex) | not (t : Te) | and (ts : Tes) | or (ts : Tes)
inductive Tes where
  | one (t : Te) | cons (t : Te) (ts : Tes)
inductive Exs where
  | nil | cons (e : Ex) (es : Exs)
end

mutual
inductive Sm where
  | set (i : Nat) (e : Ex) | ret (e : Ex) | retN | pass | brk | cont
  | drop (e : Ex)
  | ite (t : Te) (a b : Sms)
  | whil (t : Te) (b : Sms)
  | raise (x : Str)
  | asg (tg : Tg) (e : Ex)
  | setSub (o i e : Ex)
  | aug (i : Nat) (op : Bop) (e : Ex)
  | setC (i : Nat) (own : List Nat) (elt : Ex) (tg : Tg) (it : It) (cond : Tes0)
  | for_ (tg : Tg) (it : It) (b : Sms)
  | setFld (o : Ex) (f : Str) (e : Ex) | augFld (o : Ex) (f : Str) (op : Bop) (e : Ex) | lck (s : Sm) | try_ (b : Sms) (x : Str) (o : Option Nat) (su : Sms) | par (i j : Nat) (a b : Ex)
inductive Sms where
  | nil | cons (s : Sm) (ss : Sms) | defret (i : Nat) (o : Ex) (m : Str) (es : Exs) (id q : Str) (js : List Nat) | mkfn (i : Nat) (id q : Str) (js : List Nat)
end

structure Fn where
  ps : List Str
  N : List Str
  body : Sms

def gt : Env → Nat → Option Va
  | [], _ => none
  | o :: _, 0 => o
  | _ :: r, i + 1 => gt r i
theorem gt_eq : ∀ (l : Env) (i : Nat) (v : Va), gt l i = some v ↔ l[i]? = some (some v)
  | [], i, v => by simp [gt]
  | o :: r, 0, v => by simp [gt]
  | o :: r, i + 1, v => by simp [gt, gt_eq r i v]

/-- a list's items: a frozen one, or one of the store -/
def LV (S : Sto) (v : Va) (xs : List Va) : Prop := v = .lst xs ∨ ∃ k, v = .loc k ∧ S[k]? = some (.lst xs)

/-- flat data -/
def flat : Va → Bool
  | .non => true | .bl _ => true | .int _ => true | .str _ => true
  | .tup _ => false | .lst _ => false | .dct _ => false | .loc _ => false | .scr _ => false | .exc _ => false | .fnv _ _ => false
def scal : Va → Va → Bool
  | .int _, .int _ => true | .bl _, .bl _ => true | .str _, .str _ => true | .non, .non => true
  | _, _ => false
def eqF : Va → Va → Bool
  | .int i, .int j => decide (i = j) | .bl a, .bl b => decide (a = b) | .str a, .str b => decide (a = b) | .non, .non => true
  | _, _ => false

/-- == of flat things, a truth being a number too -/
def eqW : Va → Va → Bool
  | .non, .non => true
  | .bl a, .bl b => a == b
  | .bl a, .int b => (if a then 1 else 0) == b
  | .int a, .bl b => a == (if b then 1 else 0)
  | .int a, .int b => a == b
  | .str a, .str b => a == b
  | _, _ => false
mutual
/-- data at any depth, read through the store -/
inductive DV (S : Sto) : Va → PyData → Prop
  | non : DV S .non .none
  | bl (b : Bool) : DV S (.bl b) (.bool b)
  | int (i : Int) : DV S (.int i) (.int i)
  | str (x : Str) : DV S (.str x) (.str x)
  | tup {xs : List Va} {ds : List PyData} : DVs S xs ds → DV S (.tup xs) (.tuple ds)
  | lst {xs : List Va} {ds : List PyData} : DVs S xs ds → DV S (.lst xs) (.list ds)
  | loc {k : Nat} {xs : List Va} {ds : List PyData} : S[k]? = some (.lst xs) → DVs S xs ds → DV S (.loc k) (.list ds)
inductive DVs (S : Sto) : List Va → List PyData → Prop
  | nil : DVs S [] []
  | cons {v : Va} {vs : List Va} {d : PyData} {ds : List PyData} : DV S v d → DVs S vs ds → DVs S (v :: vs) (d :: ds)
end

/-! ### dicts, objects -/
def keyV : Va → Option Key
  | .int i => some (.inl i)
  | .str x => some (.inr x)
  | _ => none
def dget (kvs : List (Key × Va)) (k : Key) : Option Va := (kvs.find? fun kv => decide (kv.1 = k)).map (·.2)
def dput (kvs : List (Key × Va)) (k : Key) (v : Va) : List (Key × Va) :=
  if (kvs.any fun kv => decide (kv.1 = k)) = true then kvs.map (fun kv => if kv.1 = k then (kv.1, v) else kv) else kvs ++ [(k, v)]
def ddrop (kvs : List (Key × Va)) (k : Key) : List (Key × Va) := kvs.filter fun kv => decide (kv.1 ≠ k)
def mergeA (kvs more : List (Key × Va)) : List (Key × Va) := more.foldl (fun acc kv => dput acc kv.1 kv.2) kvs
def pairsV : List Va → Option (List (Key × Va))
  | [] => some []
  | k :: v :: r => match keyV k, pairsV r with
    | some k, some r => some ((k, v) :: r)
    | _, _ => none
  | _ => none
def putFA (f : Str) (v : Va) : List (Str × Va) → List (Str × Va)
  | [] => [(f, v)]
  | (g, x) :: r => if g = f then (g, v) :: r else (g, x) :: putFA f v r
/-- a dict's pairs: a frozen one, or one of the store -/
def LD (S : Sto) (v : Va) (kvs : List (Key × Va)) : Prop := v = .dct kvs ∨ ∃ k, v = .loc k ∧ S[k]? = some (.dct kvs)

/-- two dicts alike: as many pairs, and each of the one has its like in the other -/
def DEq (S : Sto) (x y : Va) : Prop := ∃ ks ls, LD S x ks ∧ LD S y ls ∧ ks.length = ls.length ∧ ∀ p ∈ ks, ∃ z, dget ls p.1 = some z ∧ ∃ d, DV S p.2 d ∧ DV S z d ∧ SeqAt.shaped d = true ∧ PyData.eqv d d = true
/-- == of things with dicts among them, n deep at most -/
inductive QE (S : Sto) : Nat → Va → Va → Bool → Prop
  | leaf {n : Nat} {v u : Va} {d e : PyData} : DV S v d → DV S u e → SeqAt.shaped d = true → SeqAt.shaped e = true → min d.depth e.depth ≤ n → QE S n v u (PyData.eqv d e)
  | lsts {n : Nat} {v u : Va} {xs ys : List Va} {e : Nat → Bool} : LV S v xs → LV S u ys → xs.length = ys.length → (∀ (j : Nat) (x y : Va), xs[j]? = some x → ys[j]? = some y → QE S n x y (e j)) → QE S (n + 1) v u ((List.range xs.length).all e)
  | lstsL {n : Nat} {v u : Va} {xs ys : List Va} : LV S v xs → LV S u ys → xs.length ≠ ys.length → QE S (n + 1) v u false
  | tups {n : Nat} {xs ys : List Va} {e : Nat → Bool} : (∀ (j : Nat) (x y : Va), xs[j]? = some x → ys[j]? = some y → QE S n x y (e j)) → QE S (n + 1) (.tup xs) (.tup ys) ((List.range (min xs.length ys.length)).all e && xs.length == ys.length)
  | dcts {n : Nat} {v u : Va} {ks ls : List (Key × Va)} {e : Key → Bool} : LD S v ks → LD S u ls → (∀ (k : Key) (x y : Va), (k, x) ∈ ks → dget ls k = some y → QE S n x y (e k)) → QE S (n + 1) v u (ks.length == ls.length && ks.all fun p => (dget ls p.1).isSome && e p.1)
  | dl {n : Nat} {v u : Va} {ks : List (Key × Va)} {xs : List Va} : LD S v ks → LV S u xs → QE S (n + 1) v u false
  | ld {n : Nat} {v u : Va} {ks : List (Key × Va)} {xs : List Va} : LV S v xs → LD S u ks → QE S (n + 1) v u false
  | dt {n : Nat} {v : Va} {ks : List (Key × Va)} {xs : List Va} : LD S v ks → QE S (n + 1) v (.tup xs) false
  | td {n : Nat} {u : Va} {ks : List (Key × Va)} {xs : List Va} : LD S u ks → QE S (n + 1) (.tup xs) u false
  | lt {n : Nat} {v : Va} {ys xs : List Va} : LV S v ys → QE S (n + 1) v (.tup xs) false
  | tl {n : Nat} {u : Va} {ys xs : List Va} : LV S u ys → QE S (n + 1) (.tup xs) u false
/-- != of data, of dicts of data, of a dict and a list or tuple: b where they are alike -/
inductive NQ (S : Sto) : Va → Va → Bool → Prop
  | leaf {v u : Va} {d e : PyData} : DV S v d → DV S u e → SeqAt.shaped d = true → SeqAt.shaped e = true → NQ S v u (PyData.eqv d e)
  | dcts {v u : Va} {ks ls : List (Key × Va)} {e : Key → Bool} : LD S v ks → LD S u ls → (∀ (k : Key) (x y : Va), (k, x) ∈ ks → dget ls k = some y → ∃ d d', DV S x d ∧ DV S y d' ∧ SeqAt.shaped d = true ∧ SeqAt.shaped d' = true ∧ e k = PyData.eqv d d') →
      NQ S v u (ks.length == ls.length && ks.all fun p => (dget ls p.1).isSome && e p.1)
  | dl {v u : Va} {ks : List (Key × Va)} {xs : List Va} : LD S v ks → LV S u xs → NQ S v u false
  | ld {v u : Va} {ks : List (Key × Va)} {xs : List Va} : LV S v xs → LD S u ks → NQ S v u false
  | dt {v : Va} {ks : List (Key × Va)} {xs : List Va} : LD S v ks → NQ S v (.tup xs) false
  | td {u : Va} {ks : List (Key × Va)} {xs : List Va} : LD S u ks → NQ S (.tup xs) u false
/-- a product of less than some 134 million bits -/
def CMulA (i j : Int) : Prop := i.natAbs.log2 + j.natAbs.log2 < 134000000
def CDivA (j : Int) : Prop := j ≠ 0 ∧ j.natAbs.log2 < 9000

/-- two lists' items put together in a new list -/
def wCat (x y : Va) (S : Sto) (P : PV) : Prop := ∃ xs, LV S x xs ∧ ∃ ys, LV S y ys ∧ xs.length + ys.length ≤ 1000000 ∧ P (.loc S.length) (S ++ [.lst (xs ++ ys)])
def wBin : Bop → Va → Va → Sto → PV → Prop
  | .add, .int i, .int j, S, P => P (.int (i + j)) S
  | .add, .str i, .str j, S, P => i.length + j.length ≤ sizeLine ∧ P (.str (i ++ j)) S
  | .add, .lst xs, y, S, P => wCat (.lst xs) y S P
  | .add, .loc k, y, S, P => wCat (.loc k) y S P
  | .add, .tup xs, .tup ys, S, P => xs.length + ys.length ≤ 1000000 ∧ P (.tup (xs ++ ys)) S
  | .sub, .int i, .int j, S, P => P (.int (i - j)) S
  | .mul, .int i, .int j, S, P => CMulA i j ∧ P (.int (i * j)) S
  | .mul, .loc k, .int i, S, P => ∃ xs, S[k]? = some (.lst xs) ∧ -(2 ^ 62) ≤ i ∧ i < 2 ^ 62 ∧ xs.length * i.toNat ≤ 1000000 ∧ P (.loc S.length) (S ++ [.lst (List.replicate i.toNat xs).flatten])
  | .mul, .str z, .int i, S, P => 2 ≤ i ∧ i < 2 ^ 31 ∧ 0 < z.length ∧ z.length * i.toNat ≤ 1000000 ∧ P (.str ⟨(List.replicate i.toNat z.cps).foldl (· ++ ·) #[]⟩) S
  | .fdiv, .int i, .int j, S, P => CDivA j ∧ P (.int (i.fdiv j)) S
  | .mod, .int i, .int j, S, P => j ≠ 0 ∧ P (.int (i.fmod j)) S
  | .pow, .int i, .int j, S, P => CPow i j ∧ P (.int (i ^ j.toNat)) S
  | _, _, _, _, _ => False

/-- {x} of an f-string -/
def wFmt : Va → Sto → PV → Prop
  | .str y, S, P => y.length ≤ sizeLine ∧ P (.str y) S
  | .int i, S, P => i.natAbs.log2 < 1920 ∧ P (.str (toString i)) S
  | _, _, _ => False
def wNeg : Va → Sto → PV → Prop
  | .int i, S, P => P (.int (-i)) S
  | _, _, _ => False

/-- x in the object o that stands at k -/
def inO (S : Sto) (neg : Bool) (x : Va) (k : Nat) : Ob → PV → Prop
  | .lst _, P => ∃ d ds, DV S x d ∧ DV S (.loc k) (.list ds) ∧ SeqAt.shaped d = true ∧ SeqAt.shaped (.list ds) = true ∧ P (.bl (if neg = true then !ds.any fun z => PyData.eqv z d else ds.any fun z => PyData.eqv z d)) S
  | .dct kvs, P => ∃ kk, keyV x = some kk ∧ P (.bl (if neg = true then !(dget kvs kk).isSome else (dget kvs kk).isSome)) S
  | .lok kvs, P => ∃ kk, keyV x = some kk ∧ P (.bl (if neg = true then !(dget kvs kk).isSome else (dget kvs kk).isSome)) S
  | _, _ => False
def wCmp : Cop → Va → Va → Sto → PV → Prop
  | .lt, .int i, .int j, S, P => P (.bl (decide (i < j))) S
  | .le, .int i, .int j, S, P => P (.bl (decide (i ≤ j))) S
  | .gt, .int i, .int j, S, P => P (.bl (decide (j < i))) S
  | .ge, .int i, .int j, S, P => P (.bl (decide (j ≤ i))) S
  | .lt, .tup xs, .tup ys, S, P => ∃ d e, DV S (.tup xs) d ∧ DV S (.tup ys) e ∧ PySem.W.alike d e = true ∧ d.depth ≤ 60 ∧ P (.bl (PySem.W.dataLt d e)) S
  | .gt, .tup xs, .tup ys, S, P => ∃ d e, DV S (.tup xs) d ∧ DV S (.tup ys) e ∧ PySem.W.alike d e = true ∧ d.depth ≤ 60 ∧ P (.bl (PySem.W.dataLt e d)) S
  | .isb, .bl a, .bl b, S, P => P (.bl (decide (a = b))) S
  | .nisb, .bl a, .bl b, S, P => P (.bl (!decide (a = b))) S
  | .isin, .str x, .str y, S, P => x.length = 1 ∧ P (.bl (decide (x.cps.getD 0 0 ∈ y.cps.toList))) S
  | .notin, .str x, .str y, S, P => x.length = 1 ∧ P (.bl (!decide (x.cps.getD 0 0 ∈ y.cps.toList))) S
  | .isin, x, .tup xs, S, P => flat x = true ∧ xs.all flat = true ∧ P (.bl (xs.any fun z => eqW z x)) S
  | .isin, x, .dct kvs, S, P => ∃ kk, keyV x = some kk ∧ P (.bl (dget kvs kk).isSome) S
  | .notin, x, .dct kvs, S, P => ∃ kk, keyV x = some kk ∧ P (.bl (!(dget kvs kk).isSome)) S
  | .isin, x, .loc k, S, P => ∃ o, S[k]? = some o ∧ inO S false x k o P
  | .notin, x, .loc k, S, P => ∃ o, S[k]? = some o ∧ inO S true x k o P
  | .notin, x, .tup xs, S, P => flat x = true ∧ xs.all flat = true ∧ P (.bl (!xs.any fun z => eqW z x)) S
  | .isin, x, y, S, P => ∃ d ds, DV S x d ∧ DV S y (.list ds) ∧ SeqAt.shaped d = true ∧ SeqAt.shaped (.list ds) = true ∧ P (.bl (ds.any fun z => PyData.eqv z d)) S
  | .notin, x, y, S, P => ∃ d ds, DV S x d ∧ DV S y (.list ds) ∧ SeqAt.shaped d = true ∧ SeqAt.shaped (.list ds) = true ∧ P (.bl (!ds.any fun z => PyData.eqv z d)) S
  | .eq, x, y, S, P => ((scal x y = true ∧ P (.bl (eqF x y)) S) ∨ (DEq S x y ∧ P (.bl true) S)) ∨ ∃ d e, DV S x d ∧ DV S y e ∧ SeqAt.shaped d = true ∧ SeqAt.shaped e = true ∧ P (.bl (PyData.eqv d e)) S
  | .ne, x, y, S, P => ((scal x y = true ∧ P (.bl (!eqF x y)) S) ∨ (DEq S x y ∧ P (.bl false) S)) ∨ ∃ d e, DV S x d ∧ DV S y e ∧ SeqAt.shaped d = true ∧ SeqAt.shaped e = true ∧ P (.bl (!PyData.eqv d e)) S
  | .eqd, x, y, S, P => ∃ b, QE S 50 x y b ∧ P (.bl b) S
  | .ned, x, y, S, P => ∃ b, NQ S x y b ∧ P (.bl (!b)) S
  | _, _, _, _, _ => False

def isNon : Va → Bool
  | .non => true | _ => false

def lenO : Ob → Sto → PV → Prop
  | .lst xs, S, P => P (.int xs.length) S
  | .dct kvs, S, P => P (.int kvs.length) S
  | .lok kvs, S, P => P (.int kvs.length) S
  | _, _, _ => False
def wLen : Va → Sto → PV → Prop
  | .tup xs, S, P => P (.int xs.length) S
  | .lst xs, S, P => P (.int xs.length) S
  | .loc k, S, P => ∃ o, S[k]? = some o ∧ lenO o S P
  | .dct kvs, S, P => P (.int kvs.length) S
  | .str x, S, P => x.length ≤ sizeLine ∧ P (.int x.length) S
  | .scr ns, S, P => P (.int ns.length) S
  | _, _, _ => False

def wAbs : Va → Sto → PV → Prop
  | .int i, S, P => P (.int (if i < 0 then -i else i)) S
  | _, _, _ => False

def tyIs (S : Sto) : Va → Ty → Option Bool
  | .non, _ => some false
  | .bl _, t => some (t == .bool || t == .int)
  | .int _, t => some (t == .int)
  | .str _, t => some (t == .str)
  | .tup _, t => some (t == .tuple)
  | .lst _, t => some (t == .list)
  | .dct _, t => some (t == .dict)
  | .scr _, t => some (t == .list)
  | .exc _, _ => none
  | .fnv _ _, _ => none
  | .loc k, t => match S[k]? with
    | some (.lst _) => some (t == .list)
    | some (.dct _) => some (t == .dict)
    | _ => none

def subO : Ob → Va → Sto → PV → Prop
  | .lst xs, .int i, S, P => ∃ v, L2.atI xs i = some v ∧ P v S
  | .dct kvs, y, S, P => ∃ kk, keyV y = some kk ∧ ∃ v, dget kvs kk = some v ∧ P v S
  | .lok kvs, y, S, P => ∃ kk, keyV y = some kk ∧ ∃ v, dget kvs kk = some v ∧ P v S
  | _, _, _, _ => False
/-- o[i], by a place from the front or the back; by a key -/
def wSub : Va → Va → Sto → PV → Prop
  | .tup xs, .int i, S, P => ∃ v, L2.atI xs i = some v ∧ P v S
  | .lst xs, .int i, S, P => ∃ v, L2.atI xs i = some v ∧ P v S
  | .loc k, y, S, P => ∃ o, S[k]? = some o ∧ subO o y S P
  | .dct kvs, y, S, P => ∃ kk, keyV y = some kk ∧ ∃ v, dget kvs kk = some v ∧ P v S
  | .scr ns, .int i, S, P => ∃ n, L2.atI ns i = some n ∧ P (.int n) S
  | .str z, .int i, S, P => ∃ c, z.length ≤ sizeLine ∧ L2.atI z.cps.toList i = some c ∧ P (.str ⟨#[c]⟩) S
  | _, _, _, _ => False

/-- a value's truth -/
def tru (S : Sto) : Va → Option Bool
  | .non => some false
  | .bl b => some b
  | .int i => some (i != 0)
  | .lst xs => some (!xs.isEmpty)
  | .tup xs => some (!xs.isEmpty)
  | .dct kvs => some (!kvs.isEmpty)
  | .loc k => match S[k]? with
    | some (.lst xs) => some (!xs.isEmpty)
    | some (.dct kvs) => some (!kvs.isEmpty)
    | _ => none
  | _ => none

/-- a slice's parts -/
def cutA {α : Type} (xs : List α) (lo hi : Option Int) : List α := (xs.drop (HT.sIx xs.length 0 lo)).take (HT.sIx xs.length xs.length hi - HT.sIx xs.length 0 lo)
def wSlice : Va → Option Int → Option Int → Sto → PV → Prop
  | .lst xs, lo, hi, S, P => P (.loc S.length) (S ++ [.lst (cutA xs lo hi)])
  | .loc k, lo, hi, S, P => ∃ xs, S[k]? = some (.lst xs) ∧ P (.loc S.length) (S ++ [.lst (cutA xs lo hi)])
  | .scr ns, lo, hi, S, P => P (.loc S.length) (S ++ [.lst ((cutA ns lo hi).map Va.int)])
  | .tup xs, lo, hi, S, P => P (.tup (cutA xs lo hi)) S
  | .str z, lo, hi, S, P => z.length ≤ sizeLine ∧ P (.str (L2.cutS z lo hi)) S
  | _, _, _, _, _ => False

def keyA : Key → Va
  | .inl i => .int i
  | .inr x => .str x
def listO : Ob → Sto → PV → Prop
  | .lst xs, S, P => P (.loc S.length) (S ++ [.lst xs])
  | .dct kvs, S, P => P (.loc S.length) (S ++ [.lst (kvs.map fun kv => keyA kv.1)])
  | _, _, _ => False
def wBlt : Bf → List Va → Sto → PV → Prop
  | .list, [.lst xs], S, P => P (.loc S.length) (S ++ [.lst xs])
  | .list, [.tup xs], S, P => P (.loc S.length) (S ++ [.lst xs])
  | .list, [.scr ns], S, P => P (.loc S.length) (S ++ [.lst (ns.map Va.int)])
  | .list, [.loc k], S, P => ∃ o, S[k]? = some o ∧ listO o S P
  | .list, [.dct kvs], S, P => P (.loc S.length) (S ++ [.lst (kvs.map fun kv => keyA kv.1)])
  | .dict, [v], S, P => ∃ kvs, LD S v kvs ∧ P (.loc S.length) (S ++ [.dct kvs])
  | .tuple, [.lst xs], S, P => P (.tup xs) S
  | .tuple, [.tup xs], S, P => P (.tup xs) S
  | .tuple, [.loc k], S, P => ∃ xs, S[k]? = some (.lst xs) ∧ P (.tup xs) S
  | .sum, [v], S, P => ∃ ns : List Int, LV S v (ns.map Va.int) ∧ P (.int ns.sum) S
  | .max1, [v], S, P => ∃ ns : List Int, LV S v (ns.map Va.int) ∧ 0 < ns.length ∧ ∀ m, m ∈ ns → (∀ y, y ∈ ns → y ≤ m) → P (.int m) S
  | .maxT, [v], S, P => ∃ xs ds, LV S v xs ∧ DVs S xs ds ∧ PySem.W.AlikeAll ds ∧ PyData.depthAll ds ≤ 60 ∧ ds ≠ [] ∧ ∀ (y : PyData) (ys : List PyData) (i : Nat) (u : Va), ds = y :: ys → xs[i]? = some u → ds[i]? = some (PySem.W.maxD y ys) → P u S
  | .min1, [v], S, P => ∃ ns : List Int, LV S v (ns.map Va.int) ∧ 0 < ns.length ∧ ∀ m, m ∈ ns → (∀ y, y ∈ ns → m ≤ y) → P (.int m) S
  | .max2, [.int i, .int j], S, P => P (.int (if j > i then j else i)) S
  | .min2, [.int i, .int j], S, P => P (.int (if j < i then j else i)) S
  | .sorted, [v], S, P => ((∃ (kvs : List (Key × Va)) (ks : List Int), LD S v kvs ∧ kvs.map (·.1) = ks.map Sum.inl ∧ ks.length < 64 ∧ ∀ ns' : List Int, ns'.Perm ks → ns'.Pairwise (· ≤ ·) → P (.loc S.length) (S ++ [.lst (ns'.map Va.int)])) ∨ ∃ ns : List Int, LV S v (ns.map Va.int) ∧ ∀ ns' : List Int, ns'.Perm ns → ns'.Pairwise (· ≤ ·) → P (.loc S.length) (S ++ [.lst (ns'.map Va.int)])) ∨
    ((∃ (kvs : List (Key × Va)) (ks : List Str), LD S v kvs ∧ kvs.map (·.1) = ks.map Sum.inr ∧ ks.length < 64 ∧ ∀ ns' : List Str, ns'.Perm ks → sortedS ns' = true → P (.loc S.length) (S ++ [.lst (ns'.map Va.str)])) ∨ ∃ ns : List Str, LV S v (ns.map Va.str) ∧ ns.length < 64 ∧ ∀ ns' : List Str, ns'.Perm ns → sortedS ns' = true → P (.loc S.length) (S ++ [.lst (ns'.map Va.str)]))
  | .ord, [.str x], S, P => x.length = 1 ∧ P (.int (x.cps.getD 0 0 : Nat)) S
  | .str, [.int i], S, P => i.natAbs.log2 < 1920 ∧ P (.str (toString i)) S
  | .int, [.bl b], S, P => P (.int (if b = true then 1 else 0)) S
  | .int, [.int i], S, P => P (.int i) S
  | .int, [.str a], S, P => ∃ n, PySem.intText? a = some n ∧ a.length ≤ 640 ∧ P (.int n) S
  | .all, [v], S, P => ∃ bs : List Bool, LV S v (bs.map Va.bl) ∧ P (.bl (bs.all id)) S
  | .any, [v], S, P => ∃ bs : List Bool, LV S v (bs.map Va.bl) ∧ P (.bl (bs.any id)) S
  | _, _, _, _ => False

/-- what a method's own thing must be, ahead of the rest -/
def mOk (S : Sto) : Mf → Va → Prop
  | .join, v => ∃ a, v = .str a
  | .upper, v => ∃ a, v = .str a
  | .partition, v => ∃ a, v = .str a
  | .split, v => ∃ a, v = .str a
  | .endswith, v => ∃ a, v = .str a
  | .find, v => ∃ a, v = .str a
  | _, v => ∃ xs, LV S v xs
def wMth : Mf → Va → List Va → Sto → PV → Prop
  | .append, .loc k, [y], S, P => ∃ xs, S[k]? = some (.lst xs) ∧ xs.length < 1000000 ∧ P .non (S.set k (.lst (xs ++ [y])))
  | .pop, .loc k, [], S, P => ∃ xs, S[k]? = some (.lst xs) ∧ ∃ y, xs[xs.length - 1]? = some y ∧ P y (S.set k (.lst xs.dropLast))
  | .extend, .loc k, [z], S, P => ∃ xs, S[k]? = some (.lst xs) ∧ ∃ zs, LV S z zs ∧ xs.length + zs.length ≤ 1000000 ∧ P .non (S.set k (.lst (xs ++ zs)))
  | .insert, .loc k, [.int i, y], S, P => ∃ xs, S[k]? = some (.lst xs) ∧ xs.length < 1000000 ∧ 0 ≤ i ∧ i < 2 ^ 63 ∧ P .non (S.set k (.lst (xs.take i.toNat ++ [y] ++ xs.drop i.toNat)))
  | .join, .str a, [z], S, P => ∃ ys : List Str, (z = .tup (ys.map Va.str) ∨ LV S z (ys.map Va.str)) ∧ (ys.map PySem.Str.length).sum + ys.length * a.length ≤ 16777216 ∧ P (.str (Txt.join a ys)) S
  | .index, o, [y], S, P => ∃ d ds j z, DV S o (.list ds) ∧ DV S y d ∧ SeqAt.shaped (.list ds) = true ∧ SeqAt.shaped d = true ∧ ds[j]? = some z ∧ PyData.eqv z d = true ∧ (∀ (m : Nat) (z' : PyData), m < j → ds[m]? = some z' → PyData.eqv z' d = false) ∧ P (.int (j : Nat)) S
  | .count, o, [y], S, P => ∃ d ds, DV S o (.list ds) ∧ DV S y d ∧ SeqAt.shaped (.list ds) = true ∧ SeqAt.shaped d = true ∧ P (.int ((ds.countP fun z => PyData.eqv z d : Nat) : Int)) S
  | .upper, .str a, [], S, P => a.length ≤ 5592405 ∧ P (.str (Txt.upper a)) S
  | .partition, .str a, [.str b], S, P => (b.length == 0) = false ∧ a.length ≤ sizeLine ∧ P (.tup [.str (Txt.partition a b).1, .str (Txt.partition a b).2.1, .str (Txt.partition a b).2.2]) S
  | .split, .str a, [.str b], S, P => (b.length == 0) = false ∧ a.length + 2 ≤ sizeLine ∧ P (.loc S.length) (S ++ [.lst ((Txt.split a b).map Va.str)])
  | .endswith, .str a, [.str b], S, P => P (.bl (Txt.endswith a b)) S
  | .find, .str a, [.str b], S, P => P (.int (Txt.find a b)) S
  | .clear, .loc k, [], S, P => ∃ xs, S[k]? = some (.lst xs) ∧ P .non (S.set k (.lst []))
  | .remove, .loc k, [.int x], S, P => ∃ (ns : List Int) (j : Nat), S[k]? = some (.lst (ns.map Va.int)) ∧ ns[j]? = some x ∧ (∀ m : Nat, m < j → ns[m]? ≠ some x) ∧ P .non (S.set k (.lst ((ns.eraseIdx j).map Va.int)))
  | _, _, _, _, _ => False

/-- what a for, a comprehension walks: its things, what must stand at each turn -/
abbrev PI_ := List Va → (Sto → Prop) → Sto → Prop
def wSeq : Va → Sto → PI_ → Prop
  | .lst xs, S, P => P xs (fun _ => True) S
  | .tup xs, S, P => P xs (fun _ => True) S
  | .scr ns, S, P => P (ns.map Va.int) (fun _ => True) S
  | .str z, S, P => P (z.cps.toList.map fun c => Va.str ⟨#[c]⟩) (fun _ => True) S
  | .loc k, S, P => ∃ xs, S[k]? = some (.lst xs) ∧ P xs (fun S' => S'[k]? = some (.lst xs)) S
  | _, _, _ => False
/-- a list alone -/
def wLst : Va → Sto → PI_ → Prop
  | .lst xs, S, P => P xs (fun _ => True) S
  | .scr ns, S, P => P (ns.map Va.int) (fun _ => True) S
  | .loc k, S, P => ∃ xs, S[k]? = some (.lst xs) ∧ P xs (fun S' => S'[k]? = some (.lst xs)) S
  | _, _, _ => False
def wEn : Va → Sto → PI_ → Prop
  | .tup xs, S, P => P xs (fun _ => True) S
  | v, S, P => wLst v S P
def enumV : Nat → List Va → List Va
  | _, [] => []
  | n, x :: xs => .tup [.int (n : Nat), x] :: enumV (n + 1) xs
def zipV : List Va → List Va → List Va
  | x :: xs, y :: ys => .tup [x, y] :: zipV xs ys
  | _, _ => []
def rangeDV (lo : Int) (n : Nat) : List Va := (List.range n).map fun (i : Nat) => Va.int (lo - i)
def rangeV (lo : Int) (n : Nat) : List Va := (List.range n).map fun (i : Nat) => Va.int (lo + i)
/-- the items that a target takes apart -/
def partsOf (S : Sto) : Va → Option (List Va)
  | .tup xs => some xs
  | .lst xs => some xs
  | .loc k => match S[k]? with
    | some (.lst xs) => some xs
    | _ => none
  | _ => none
mutual
def bindT (S : Sto) : Tg → Va → Env → Option Env
  | .name i, v, Γ => some (Γ.set i (some v))
  | .tup ts, v, Γ => match partsOf S v with
    | some xs => bindTs S ts xs Γ
    | none => none
def bindTs (S : Sto) : Tgs → List Va → Env → Option Env
  | .nil, [], Γ => some Γ
  | .cons t ts, x :: xs, Γ => match bindT S t x Γ with
    | some Γ1 => bindTs S ts xs Γ1
    | none => none
  | _, _, _ => none
end
def wipeA (Γ : Env) : List Nat → Env
  | [] => Γ
  | v :: vs => (wipeA Γ vs).set v none
/-- a comprehension's turns: d the place of the list that grows -/
def cpL (bind : Va → Sto → Option Env) (t : Env → Sto → (Bool → Sto → Prop) → Prop) (e : Env → Sto → PV → Prop) (G : Sto → Prop) (d : Nat) (P : PV) : List Va → Sto → Prop
  | [], S => P (.loc d) S
  | x :: xs, S => ∃ Γ1, bind x S = some Γ1 ∧ t Γ1 S fun b S2 => if b = true then e Γ1 S2 fun v S3 => ∃ acc, S3[d]? = some (.lst acc) ∧ acc.length < 1000000 ∧ G (S3.set d (.lst (acc ++ [v]))) ∧ cpL bind t e G d P xs (S3.set d (.lst (acc ++ [v])))
      else G S2 ∧ cpL bind t e G d P xs S2
/-- every second one, from the first on -/
def evensL {α : Type} : List α → List α
  | [] => []
  | [x] => [x]
  | x :: _ :: r => x :: evensL r
structure Orc where
  run : Str → List Va → Sto → PV → PX → Prop
  meth : Str → Str → Option Str
  noat : Str → Str → Bool
  init : Str → Option (Option Str)
  glob : Str → Option Va
  isa : Str → Str → Option Bool
  gdct : Str → Option (List (Str × Option Va))
  xk : Str → Str → Option Bool
  cur : Option (PySem.Addr × Str)
  fns : List Clo
  runC : Clo → Str → List Va → Sto → PV → PX → Prop
  dfl : Str → Option Str
  mkf : Str → Option (Str × Str × List Nat × Nat)
/-- a lambdas' table stands in the store -/
def hasTab (S : Sto) (q : Str) : Prop := ∃ i : Nat, S[i]? = some (Ob.tab q)
/-- what a function made here captures -/
def capsA (Γ : Env) : List Nat → Option (List Va)
  | [] => some []
  | i :: r => match gt Γ i, capsA Γ r with
    | some v, some vs => some (v :: vs)
    | _, _ => none
/-- whether an exception is one of some classes -/
def xkAny (C : Orc) (c : Str) : List Str → Option Bool
  | [] => some false
  | x :: r => match C.xk c x, xkAny C c r with
    | some b, some d => some (b || d)
    | _, _ => none
/-- an object's field -/
def fldO (C : Orc) (f : Str) : Ob → Option Va
  | .ins c fs => if C.noat c f = true then fs.lookup f else none
  | _ => none
def clsOf : Ob → Str
  | .ins c _ => c
  | _ => ""
def putFO (C : Orc) (f : Str) (v : Va) : Ob → Option Ob
  | .ins c fs => if C.noat c f = true ∧ fs.length < 1000 then some (.ins c (putFA f v fs)) else none
  | _ => none
/-- whether an object is one of an own class -/
def clsIs (C : Orc) (x : Str) : Ob → Option Bool
  | .ins c _ => C.isa c x
  | _ => none
/-- the def behind an object's method -/
def mkey (C : Orc) (m : Str) : Ob → Option Str
  | .ins c fs => if fs.lookup m = none then C.meth c m else none
  | _ => none
/-- what o[i] = v makes of an object -/
def putO : Ob → Va → Va → Option Ob
  | .lst xs, .int j, v => (L2.ixN xs.length j).map fun n => .lst (xs.set n v)
  | .dct kvs, y, v => match keyV y with
    | some kk => if kvs.length < 1000000 then some (.dct (dput kvs kk v)) else none
    | none => none
  | _, _, _ => none
def isD (S : Sto) (v : Va) : Prop := ∃ kvs, LD S v kvs

mutual
def W (C : Orc) : Ex → Env → Sto → PV → PX → Prop
  | .var i, Γ, S, P, _ => ∃ v, gt Γ i = some v ∧ P v S
  | .int i, _, S, P, _ => P (.int i) S
  | .bl b, _, S, P, _ => P (.bl b) S
  | .non, _, S, P, _ => P .non S
  | .str x, _, S, P, _ => P (.str x) S
  | .glob x, _, S, P, _ => ∃ v, C.glob x = some v ∧ P v S
  | .tup es, Γ, S, P, E => WL C es Γ S (fun vs S1 => vs.length ≤ 1000 ∧ P (.tup vs) S1) E
  | .lst es, Γ, S, P, E => WL C es Γ S (fun vs S1 => vs.length ≤ 1000 ∧ P (.loc S1.length) (S1 ++ [.lst vs])) E
  | .bin op a b, Γ, S, P, E => W C a Γ S (fun x S1 => W C b Γ S1 (fun y S2 => wBin op x y S2 P) E) E
  | .neg a, Γ, S, P, E => W C a Γ S (fun x S1 => wNeg x S1 P) E
  | .cmp op a b, Γ, S, P, E => W C a Γ S (fun x S1 => W C b Γ S1 (fun y S2 => wCmp op x y S2 P) E) E
  | .isN a, Γ, S, P, E => W C a Γ S (fun x S1 => P (.bl (isNon x)) S1) E
  | .notN a, Γ, S, P, E => W C a Γ S (fun x S1 => P (.bl (!isNon x)) S1) E
  | .maxd a d, Γ, S, P, E => W C a Γ S (fun x S1 => W C d Γ S1 (fun z S2 => ∃ xs ds, LV S2 x xs ∧ DVs S2 xs ds ∧ PySem.W.AlikeAll ds ∧ PyData.depthAll ds ≤ 60 ∧ (ds = [] → P z S2) ∧ ∀ (y : PyData) (ys : List PyData) (i : Nat) (v : Va), ds = y :: ys → xs[i]? = some v → ds[i]? = some (PySem.W.maxD y ys) → P v S2) E) E
  | .sortk a q, Γ, S, P, E => W C a Γ S (fun x S1 => ∃ (i : Nat) (bs : List (Va × PyData)), S1[i]? = some (.tab q) ∧ LV S1 x (bs.map (·.1)) ∧ (∀ b ∈ bs, ∃ k r, b.1 = .tup (k :: r) ∧ DV S1 k b.2 ∧ tupD b.2 = true) ∧ PySem.W.AllAlike (bs.map (·.2)) ∧ PySem.W.Sortable (bs.map (·.2)) ∧ (∀ b ∈ bs, b.2.depth ≤ 60) ∧ P (.loc S1.length) (S1 ++ [.lst ((bs.mergeSort (PySem.W.dataLe true (·.2))).map (·.1))])) E
  | .lrev a, Γ, S, P, E => W C a Γ S (fun x S1 => ∃ xs, (LV S1 x xs ∨ x = .tup xs) ∧ P (.loc S1.length) (S1 ++ [.lst xs.reverse])) E
  | .chain3 op op' op'' a b c d, Γ, S, P, E => W C a Γ S (fun x S1 => W C b Γ S1 (fun y S2 => wCmp op x y S2 (fun z S3 => ∃ k, z = .bl k ∧ if k = true then W C c Γ S3 (fun u S4 => wCmp op' y u S4 (fun z S5 => ∃ k, z = .bl k ∧ if k = true then W C d Γ S5 (fun v S6 => wCmp op'' u v S6 P) E else P (.bl false) S5)) E else P (.bl false) S3)) E) E
  | .chain op op' a b c, Γ, S, P, E => W C a Γ S (fun x S1 => W C b Γ S1 (fun y S2 => wCmp op x y S2 (fun z S3 => ∃ k, z = .bl k ∧ if k = true then W C c Γ S3 (fun u S4 => wCmp op' y u S4 P) E else P (.bl false) S3)) E) E
  | .tst t, Γ, S, P, E => WB C t Γ S P E
  | .ite t a b, Γ, S, P, E => WT C t Γ S (fun k S1 => if k = true then W C a Γ S1 P E else W C b Γ S1 P E) E
  | .call f es, Γ, S, P, E => WL C es Γ S (fun vs S1 => C.run f vs S1 P E) E
  | .len a, Γ, S, P, E => W C a Γ S (fun x S1 => wLen x S1 P) E
  | .abs a, Γ, S, P, E => W C a Γ S (fun x S1 => wAbs x S1 P) E
  | .isi a t, Γ, S, P, E => W C a Γ S (fun x S1 => ∃ b, tyIs S1 x t = some b ∧ P (.bl b) S1) E
  | .sub a i, Γ, S, P, E => W C a Γ S (fun x S1 => W C i Γ S1 (fun y S2 => wSub x y S2 P) E) E
  | .slice a lo hi, Γ, S, P, E => W C a Γ S (fun x S1 => WOe C lo Γ S1 (fun l S2 => WOe C hi Γ S2 (fun h S3 => wSlice x l h S3 P) E) E) E
  | .blt f es, Γ, S, P, E => WL C es Γ S (fun vs S1 => wBlt f vs S1 P) E
  | .mth m o es, Γ, S, P, E => W C o Γ S (fun x S1 => mOk S1 m x ∧ WL C es Γ S1 (fun vs S2 => wMth m x vs S2 P) E) E
  | .comp own elt tg it cond, Γ, S, P, E => WI C it Γ S (fun xs G S1 => G (S1 ++ [.lst []]) ∧ cpL (fun x S => bindT S tg x (wipeA Γ own)) (fun Γ S Q => WT0 C cond Γ S Q) (fun Γ S Q => W C elt Γ S Q (fun _ _ => False)) G S1.length P xs (S1 ++ [.lst []])) E
  | .fld o f, Γ, S, P, E => W C o Γ S (fun x S1 => ∃ k, x = .loc k ∧ ∃ ob, S1[k]? = some ob ∧ ∃ v, fldO C f ob = some v ∧ P v S1) E
  | .mcall o m es, Γ, S, P, E => W C o Γ S (fun x S1 => ∃ k, x = .loc k ∧ ∃ ob, S1[k]? = some ob ∧ ∃ key, mkey C m ob = some key ∧ WL C es Γ S1 (fun vs S2 => C.run key (x :: vs) S2 P E) E) E
  | .make c es, Γ, S, P, E => ∃ key, C.init c = some (some key) ∧ WL C es Γ S (fun vs S1 => C.run key (.loc S1.length :: vs) (S1 ++ [.ins c []]) (fun v S2 => v = .non ∧ P (.loc S1.length) S2) E) E
  | .make0 c, _, S, P, _ => C.init c = some none ∧ P (.loc S.length) (S ++ [.ins c []])
  | .isc a x, Γ, S, P, E => W C a Γ S (fun v S1 => ∃ k, v = .loc k ∧ ∃ ob, S1[k]? = some ob ∧ ∃ b, clsIs C x ob = some b ∧ P (.bl b) S1) E
  | .isE a x, Γ, S, P, E => W C a Γ S (fun v S1 => ∃ ad, v = .exc ad ∧ ∃ c, C.cur = some (ad, c) ∧ ∃ b, C.xk c x = some b ∧ P (.bl b) S1) E
  | .isEt a xs, Γ, S, P, E => W C a Γ S (fun v S1 => ∃ ad, v = .exc ad ∧ ∃ c, C.cur = some (ad, c) ∧ ∃ b, xkAny C c xs = some b ∧ P (.bl b) S1) E
  | .dsp es, Γ, S, P, E => WL C es Γ (S ++ [.dct []]) (fun vs S1 => ∃ kvs, pairsV vs = some kvs ∧ kvs.length ≤ 15 ∧ S1[S.length]? = some (.dct []) ∧ P (.loc S.length) (S1.set S.length (.dct (mergeA [] kvs)))) E
  | .get1 o k, Γ, S, P, E => W C o Γ S (fun x S1 => isD S1 x ∧ W C k Γ S1 (fun y S2 => ∃ kvs, LD S2 x kvs ∧ ∃ kk, keyV y = some kk ∧ P ((dget kvs kk).getD .non) S2) E) E
  | .get2 o k d, Γ, S, P, E => W C o Γ S (fun x S1 => isD S1 x ∧ W C k Γ S1 (fun y S2 => W C d Γ S2 (fun z S3 => ∃ kvs, LD S3 x kvs ∧ ∃ kk, keyV y = some kk ∧ P ((dget kvs kk).getD z) S3) E) E) E
  | .gget x k d, Γ, S, P, E => ∃ l, C.gdct x = some l ∧ W C k Γ S (fun y S1 => W C d Γ S1 (fun z S2 => ∃ s, y = .str s ∧ ∃ o, l.lookup s = some o ∧ P (o.getD z) S2) E) E
  | .dpop1 o k, Γ, S, P, E => W C o Γ S (fun x S1 => isD S1 x ∧ W C k Γ S1 (fun y S2 => ∃ n, x = .loc n ∧ ∃ kvs, S2[n]? = some (.dct kvs) ∧ ∃ kk, keyV y = some kk ∧ ∃ v, dget kvs kk = some v ∧ P v (S2.set n (.dct (ddrop kvs kk)))) E) E
  | .dpop2 o k d, Γ, S, P, E => W C o Γ S (fun x S1 => isD S1 x ∧ W C k Γ S1 (fun y S2 => W C d Γ S2 (fun z S3 => ∃ n, x = .loc n ∧ ∃ kvs, S3[n]? = some (.dct kvs) ∧ ∃ kk, keyV y = some kk ∧ ((∃ v, dget kvs kk = some v ∧ P v (S3.set n (.dct (ddrop kvs kk)))) ∨ (dget kvs kk = none ∧ P z S3))) E) E) E
  | .evens a, Γ, S, P, E => W C a Γ S (fun x S1 => ∃ xs, LV S1 x xs ∧ P (.loc S1.length) (S1 ++ [.lst (evensL xs)])) E
  | .callv i es, Γ, S, P, E => ∃ z ws, gt Γ i = some (.fnv z ws) ∧ z ∈ C.fns ∧ WL C es Γ S (fun vs S1 => C.run z.id (vs ++ ws) S1 P E) E
  | .callc f es id q js, Γ, S, P, E => ∃ ws, capsA Γ js = some ws ∧ WL C es Γ S (fun vs S1 => hasTab S1 q ∧ ∀ z : Clo, z.id = id → C.runC z f (vs ++ [.fnv z ws]) S1 P E) E
  | .mcallc o m es id q js, Γ, S, P, E => ∃ ws, capsA Γ js = some ws ∧ W C o Γ S (fun x S1 => ∃ k, x = .loc k ∧ ∃ ob, S1[k]? = some ob ∧ ∃ key, mkey C m ob = some key ∧ WL C es Γ S1 (fun vs S2 => hasTab S2 q ∧ ∀ z : Clo, z.id = id → C.runC z key (x :: vs ++ [.fnv z ws]) S2 P E) E) E
  | .calld f es, Γ, S, P, E => (∃ y, C.dfl f = some y) ∧ WL C es Γ S (fun vs S1 => C.run f (vs ++ [.non]) S1 P E) E
  | .callk f es x e, Γ, S, P, E => C.dfl f = some x ∧ WL C es Γ S (fun vs S1 => W C e Γ S1 (fun v S2 => C.run f (vs ++ [v]) S2 P E) E) E
  | .callm f es m as, Γ, S, P, E => ∃ t, C.mkf m = some t ∧ WL C es Γ S (fun vs S1 => WL C as Γ S1 (fun us S2 => us.length = t.2.2.2 ∧ hasTab S2 t.2.1 ∧ ∃ ws, capsA (us.map some) t.2.2.1 = some ws ∧ ∀ z : Clo, z.id = t.1 → C.runC z f (vs ++ [.fnv z ws]) S2 P E) E) E
  | .fmt a, Γ, S, P, E => W C a Γ S (fun x S1 => wFmt x S1 P) E
  | .js es, Γ, S, P, E => WJ C es Str.empty Γ S P E
  | .lck e, Γ, S, P, _ => ∃ k kvs, S[k]? = some (.dct kvs) ∧ W C e Γ (S.set k (.lok kvs)) (fun v S1 => S1[k]? = some (.lok kvs) ∧ P v (S1.set k (.dct kvs))) (fun _ _ => False)
def WOe (C : Orc) : Oe → Env → Sto → (Option Int → Sto → Prop) → PX → Prop
  | .none, _, S, P, _ => P none S
  | .some e, Γ, S, P, E => W C e Γ S (fun v S1 => ∃ i, v = .int i ∧ P (some i) S1) E
def WI (C : Orc) : It → Env → Sto → PI_ → PX → Prop
  | .seq e, Γ, S, P, E => W C e Γ S (fun v S1 => wSeq v S1 P) E
  | .range1 a, Γ, S, P, E => W C a Γ S (fun v S1 => ∃ i : Int, v = .int i ∧ -(2 ^ 62) ≤ i ∧ i < 2 ^ 62 ∧ P (rangeV 0 i.toNat) (fun _ => True) S1) E
  | .range2 a b, Γ, S, P, E => W C a Γ S (fun v S1 => W C b Γ S1 (fun u S2 => ∃ i : Int, v = .int i ∧ ∃ j : Int, u = .int j ∧ (-(2 ^ 62) ≤ i ∧ i < 2 ^ 62 ∧ -(2 ^ 62) ≤ j ∧ j < 2 ^ 62) ∧ P (rangeV i (j - i).toNat) (fun _ => True) S2) E) E
  | .enum e, Γ, S, P, E => W C e Γ S (fun v S1 => wEn v S1 fun xs G S2 => P (enumV 0 xs) G S2) E
  | .zip a b, Γ, S, P, E => W C a Γ S (fun v S1 => W C b Γ S1 (fun u S2 => wLst v S2 fun xs G S3 => wLst u S3 fun ys G' S4 => P (zipV xs ys) (fun S' => G S' ∧ G' S') S4) E) E
  | .rev e, Γ, S, P, E => W C e Γ S (fun v S1 => wLst v S1 fun xs G S2 => P xs.reverse G S2) E
  | .revr a, Γ, S, P, E => W C a Γ S (fun v S1 => ∃ i : Int, v = .int i ∧ (-(2 ^ 62) ≤ i ∧ i < 2 ^ 62) ∧ P (rangeDV (((i.toNat : Nat) : Int) - 1) i.toNat) (fun _ => True) S1) E
  | .rangeD a b, Γ, S, P, E => W C a Γ S (fun v S1 => W C b Γ S1 (fun u S2 => ∃ i : Int, v = .int i ∧ ∃ j : Int, u = .int j ∧ (-(2 ^ 62) ≤ i ∧ i < 2 ^ 62 ∧ -(2 ^ 62) ≤ j ∧ j < 2 ^ 62) ∧ P (rangeDV i (i - j).toNat) (fun _ => True) S2) E) E
  | .keys e, Γ, S, P, E => W C e Γ S (fun v S1 => ∃ k, v = .loc k ∧ ∃ kvs, S1[k]? = some (.lok kvs) ∧ P (kvs.map fun kv => keyA kv.1) (fun _ => True) S1) E
  | .items e, Γ, S, P, E => W C e Γ S (fun v S1 => ∃ k, v = .loc k ∧ ∃ kvs, S1[k]? = some (.lok kvs) ∧ P (kvs.map fun kv => .tup [keyA kv.1, kv.2]) (fun _ => True) S1) E
def WT0 (C : Orc) : Tes0 → Env → Sto → (Bool → Sto → Prop) → Prop
  | .none, _, S, P => P true S
  | .some t, Γ, S, P => WT C t Γ S P (fun _ _ => False)
/-- a test -/
def WT (C : Orc) : Te → Env → Sto → (Bool → Sto → Prop) → PX → Prop
  | .val e, Γ, S, P, E => W C e Γ S (fun v S1 => ∃ b, tru S1 v = some b ∧ P b S1) E
  | .not t, Γ, S, P, E => WT C t Γ S (fun b S1 => P (!b) S1) E
  | .and ts, Γ, S, P, E => WA C ts Γ S P E
  | .or ts, Γ, S, P, E => WO C ts Γ S P E
def WA (C : Orc) : Tes → Env → Sto → (Bool → Sto → Prop) → PX → Prop
  | .one t, Γ, S, P, E => WT C t Γ S P E
  | .cons t ts, Γ, S, P, E => WT C t Γ S (fun b S1 => if b = true then WA C ts Γ S1 P E else P false S1) E
def WO (C : Orc) : Tes → Env → Sto → (Bool → Sto → Prop) → PX → Prop
  | .one t, Γ, S, P, E => WT C t Γ S P E
  | .cons t ts, Γ, S, P, E => WT C t Γ S (fun b S1 => if b = true then P true S1 else WO C ts Γ S1 P E) E
/-- a test as a value: its parts but the last are truths -/
def WB (C : Orc) : Te → Env → Sto → PV → PX → Prop
  | .val e, Γ, S, P, E => W C e Γ S P E
  | .not t, Γ, S, P, E => WB C t Γ S (fun v S1 => ∃ b, v = .bl b ∧ P (.bl (!b)) S1) E
  | .and ts, Γ, S, P, E => WBA C ts Γ S P E
  | .or ts, Γ, S, P, E => WBO C ts Γ S P E
def WBA (C : Orc) : Tes → Env → Sto → PV → PX → Prop
  | .one t, Γ, S, P, E => WB C t Γ S P E
  | .cons t ts, Γ, S, P, E => WB C t Γ S (fun v S1 => ∃ b, tru S1 v = some b ∧ if b = true then WBA C ts Γ S1 P E else P v S1) E
def WBO (C : Orc) : Tes → Env → Sto → PV → PX → Prop
  | .one t, Γ, S, P, E => WB C t Γ S P E
  | .cons t ts, Γ, S, P, E => WB C t Γ S (fun v S1 => ∃ b, tru S1 v = some b ∧ if b = true then P v S1 else WBO C ts Γ S1 P E) E
/-- the parts of an f-string, one behind another -/
def WJ (C : Orc) : Exs → Str → Env → Sto → PV → PX → Prop
  | .nil, acc, _, S, P, _ => P (.str acc) S
  | .cons e es, acc, Γ, S, P, E => W C e Γ S (fun v S1 => ∃ y : Str, v = .str y ∧ (acc ++ y).length ≤ sizeLine ∧ WJ C es (acc ++ y) Γ S1 P E) E
def WL (C : Orc) : Exs → Env → Sto → PL → PX → Prop
  | .nil, _, S, P, _ => P [] S
  | .cons e es, Γ, S, P, E => W C e Γ S (fun v S1 => WL C es Γ S1 (fun vs S2 => P (v :: vs) S2) E) E
end

abbrev PE_ := Env → Sto → Prop
def augI : Bop → Int → Int → Option Int
  | .add, n, m => some (n + m) | .sub, n, m => some (n - m) | _, _, _ => none
structure AEnds where
  nx : PE_
  rt : PV
  bk : PE_ := fun _ _ => False
  ct : PE_ := fun _ _ => False
  ex : Str → Env → Sto → Prop := fun _ _ _ => False

/-- a while, n turns at most -/
def whN (t : Env → Sto → (Bool → Sto → Prop) → Prop) (b : PE_ → Env → Sto → Prop) (nx : PE_) : Nat → PE_
  | 0, _, _ => False
  | n + 1, Γ, S => t Γ S fun k S1 => if k = true then b (whN t b nx n) Γ S1 else nx Γ S1

/-- a for's turns -/
def frL (bind : Va → Env → Sto → Option Env) (b : PE_ → Env → Sto → Prop) (G : Sto → Prop) (nx : PE_) : List Va → PE_
  | [], Γ, S => nx Γ S
  | x :: xs, Γ, S => ∃ Γ1, bind x Γ S = some Γ1 ∧ b (fun Γ' S' => G S' ∧ frL bind b G nx xs Γ' S') Γ1 S

/-- the ends, a locked dict given free ahead of them -/
def lckD (k : Nat) (kvs : List (Key × Va)) (D : AEnds) : AEnds where
  nx := fun Γ S => S[k]? = some (.lok kvs) ∧ D.nx Γ (S.set k (.dct kvs))
  rt := fun v S => S[k]? = some (.lok kvs) ∧ D.rt v (S.set k (.dct kvs))
  bk := fun Γ S => S[k]? = some (.lok kvs) ∧ D.bk Γ (S.set k (.dct kvs))
  ct := fun Γ S => S[k]? = some (.lok kvs) ∧ D.ct Γ (S.set k (.dct kvs))
  ex := fun _ _ _ => False
/-- an except suite's ends: its name goes -/
def offD (o : Option Nat) (D : AEnds) : AEnds where
  nx := fun Γ S => D.nx (match o with | some i => Γ.set i none | none => Γ) S
  rt := D.rt
  bk := fun Γ S => D.bk (match o with | some i => Γ.set i none | none => Γ) S
  ct := fun Γ S => D.ct (match o with | some i => Γ.set i none | none => Γ) S
  ex := fun _ _ _ => False
/-- .. its slots at the start -/
def onE (o : Option Nat) (a : PySem.Addr) (Γ : Env) : Env := match o with | some i => Γ.set i (some (.exc a)) | none => Γ
mutual
def WS (C : Orc) : Sm → AEnds → Env → Sto → Prop
  | .set i e, D, Γ, S => W C e Γ S (fun v S1 => D.nx (Γ.set i (some v)) S1) (fun x S1 => D.ex x Γ S1)
  | .ret e, D, Γ, S => W C e Γ S D.rt (fun x S1 => D.ex x Γ S1)
  | .retN, D, _, S => D.rt .non S
  | .pass, D, Γ, S => D.nx Γ S
  | .brk, D, Γ, S => D.bk Γ S
  | .cont, D, Γ, S => D.ct Γ S
  | .drop e, D, Γ, S => W C e Γ S (fun _ S1 => D.nx Γ S1) (fun x S1 => D.ex x Γ S1)
  | .ite t a b, D, Γ, S => WT C t Γ S (fun k S1 => if k = true then WSs C a D Γ S1 else WSs C b D Γ S1) (fun x S1 => D.ex x Γ S1)
  | .whil t b, D, Γ, S => ∃ n, whN (fun Γ S P => WT C t Γ S P (fun x S1 => D.ex x Γ S1)) (fun Nx Γ S => WSs C b { D with nx := Nx, ct := Nx, bk := D.nx } Γ S) D.nx n Γ S
  | .raise x, D, Γ, S => D.ex x Γ S
  | .asg tg e, D, Γ, S => W C e Γ S (fun v S1 => ∃ Γ1, bindT S1 tg v Γ = some Γ1 ∧ D.nx Γ1 S1) (fun x S1 => D.ex x Γ S1)
  | .setSub o i e, D, Γ, S => W C e Γ S (fun v S1 => W C o Γ S1 (fun x S2 => W C i Γ S2 (fun y S3 => ∃ k, x = .loc k ∧ ∃ ob, S3[k]? = some ob ∧ ∃ ob', putO ob y v = some ob' ∧ D.nx Γ (S3.set k ob')) (fun x S1 => D.ex x Γ S1)) (fun x S1 => D.ex x Γ S1)) (fun x S1 => D.ex x Γ S1)
  | .aug i op e, D, Γ, S => ∃ x, gt Γ i = some x ∧ W C e Γ S (fun y S1 => ∃ n : Int, x = .int n ∧ ∃ m : Int, y = .int m ∧ ∃ r : Int, augI op n m = some r ∧ D.nx (Γ.set i (some (.int r))) S1) (fun x S1 => D.ex x Γ S1)
  | .setC i own elt tg it cond, D, Γ, S => WI C it Γ S (fun xs G S1 => G (S1 ++ [.lst []]) ∧ cpL (fun x S => bindT S tg x (wipeA Γ own)) (fun Γ S Q => WT0 C cond Γ S Q) (fun Γ S Q => W C elt Γ S Q (fun _ _ => False)) G S1.length (fun v S2 => D.nx (Γ.set i (some v)) S2) xs (S1 ++ [.lst []])) (fun x S1 => D.ex x Γ S1)
  | .for_ tg it b, D, Γ, S => WI C it Γ S (fun xs G S1 => G S1 ∧ frL (fun x Γ S => bindT S tg x Γ) (fun Nx Γ S => WSs C b { D with nx := Nx, ct := Nx, bk := D.nx } Γ S) G D.nx xs Γ S1) (fun x S1 => D.ex x Γ S1)
  | .setFld o f e, D, Γ, S => W C e Γ S (fun v S1 => W C o Γ S1 (fun x S2 => ∃ k, x = .loc k ∧ ∃ ob, S2[k]? = some ob ∧ ∃ ob', putFO C f v ob = some ob' ∧ D.nx Γ (S2.set k ob')) (fun x S1 => D.ex x Γ S1)) (fun x S1 => D.ex x Γ S1)
  | .augFld o f op e, D, Γ, S => op = .add ∧ W C o Γ S (fun x S1 => ∃ k, x = .loc k ∧ ∃ ob, S1[k]? = some ob ∧ ∃ u, fldO C f ob = some u ∧ W C e Γ S1 (fun y S2 => ∃ n : Int, u = .int n ∧ ∃ m : Int, y = .int m ∧ ∃ ob2, S2[k]? = some ob2 ∧ clsOf ob2 = clsOf ob ∧ ∃ ob', putFO C f (.int (n + m)) ob2 = some ob' ∧ D.nx Γ (S2.set k ob')) (fun x S1 => D.ex x Γ S1)) (fun x S1 => D.ex x Γ S1)
  | .lck s, D, Γ, S => ∃ k kvs, S[k]? = some (.dct kvs) ∧ WS C s (lckD k kvs D) Γ (S.set k (.lok kvs))
  | .par i j a b, D, Γ, S => W C a Γ S (fun v S1 => W C b Γ S1 (fun w S2 => D.nx ((Γ.set i (some v)).set j (some w)) S2) (fun x S2 => D.ex x Γ S2)) (fun x S1 => D.ex x Γ S1)
  | .try_ b x o su, D, Γ, S => WSs C b { D with ex := fun c Γ' S' => ∃ kk, C.xk c x = some kk ∧ if kk = true then ∀ a, WSs { C with cur := some (a, c) } su (offD o D) (onE o a Γ') S' else D.ex c Γ' S' } Γ S
def WSs (C : Orc) : Sms → AEnds → Env → Sto → Prop
  | .nil, D, Γ, S => D.nx Γ S
  | .cons s ss, D, Γ, S => WS C s { D with nx := fun Γ S => WSs C ss D Γ S } Γ S
  | .mkfn _ _ _ _, _, _, _ => False
  | .defret i o m es id q js, D, Γ, S => hasTab S q ∧ ∃ ws, capsA (Γ.set i none) js = some ws ∧ W C o (Γ.set i none) S (fun x S1 => ∃ k, x = .loc k ∧ ∃ ob, S1[k]? = some ob ∧ ∃ key, mkey C m ob = some key ∧ WL C es (Γ.set i none) S1 (fun vs S2 => ∀ z : Clo, z.id = id → C.runC z key (x :: vs ++ [.fnv z ws]) S2 D.rt (fun x S1 => D.ex x (Γ.set i none) S1)) (fun x S1 => D.ex x (Γ.set i none) S1)) (fun x S1 => D.ex x (Γ.set i none) S1)
end
end AM

namespace AM
mutual
/-- the slots that a target fills -/
def tgS : Tg → List Nat
  | .name i => [i]
  | .tup ts => tgsS ts
def tgsS : Tgs → List Nat
  | .nil => []
  | .cons t ts => tgS t ++ tgsS ts
end
end AM
end

section
set_option linter.all false
set_option maxRecDepth 100000
/-! AM, second part: how the store stands for the heap. -/
namespace AM
open PySem L2

section
variable (K : PySem.W.Frag) (F : Hp) (β : List Addr)
mutual
def VR : Va → V → Prop
  | .non, x => x = .non
  | .bl b, x => x = .bl b
  | .int i, x => x = .int i
  | .str z, x => x = .str z
  | .tup xs, x => ∃ a ys, x = .ref a ∧ SqT K F a ys ∧ VRs xs ys
  | .lst xs, x => ∃ a ys, x = .ref a ∧ F a = some (.lst ys) ∧ VRs xs ys
  | .dct kvs, x => ∃ a ys, x = .ref a ∧ F a = some (.dK ys) ∧ VRk kvs ys
  | .loc n, x => ∃ a, x = .ref a ∧ β[n]? = some a
  | .scr ns, x => ∃ a, x = .ref a ∧ SqL K F a (ns.map V.int)
  | .exc a, x => x = .ref a
  | .fnv z ws, x => x = .ref z.f ∧ F z.c = some (LamX.CodeO z.c z.q) ∧ VRs ws z.xs
def VRs : List Va → List V → Prop
  | [], ys => ys = []
  | x :: xs, ys => ∃ y r, ys = y :: r ∧ VR x y ∧ VRs xs r
def VRk : List (Key × Va) → List (Key × V) → Prop
  | [], ys => ys = []
  | (k, x) :: xs, ys => ∃ y r, ys = (k, y) :: r ∧ VR x y ∧ VRk xs r
end
def VRf : List (Str × Va) → List (Str × V) → Prop
  | [], ys => ys = []
  | (k, x) :: xs, ys => ∃ y r, ys = (k, y) :: r ∧ VR K F β x y ∧ VRf xs r

/-- an object of the store at its address -/
def OR (cA : Str → Addr) (H : Hp) : Ob → Addr → Prop
  | .lst xs, a => ∃ ys, H a = some (.lst ys) ∧ VRs K F β xs ys
  | .dct kvs, a => ∃ ys, H a = some (.dK ys) ∧ VRk K F β kvs ys
  | .ins C fs, a => ∃ dx ys, H a = some (.ins (cA C) dx ys) ∧ VRf K F β fs ys
  | .dead, _ => True
  | .lok kvs, a => ∃ od ys, F a = some (.frz od (.dK ys)) ∧ VRk K F β kvs ys
  | .tab q, a => a = cA q ∧ ∃ ps : Array Value, H a = some (.tbl ps) ∧ TriplesOk ps.toList ∧ ∀ (pos : Pos) (cv : Value), codeAmong pos ps.toList = some cv → ∃ c, cv = .ref c ∧ F c = some (LamX.CodeO c q)
end
/-- a thing of the store isn't frozen, but where it is locked -/
def FrO (F : Hp) : Ob → Addr → Prop
  | .lok _, _ => True
  | .lst _, a => F a = none
  | .dct _, a => F a = none
  | .ins _ _, a => F a = none
  | .dead, a => F a = none
  | .tab _, a => F a = none
theorem FrO.of {F : Hp} {o : Ob} {a : Addr} (h : F a = none) : FrO F o a := by cases o <;> first | exact h | trivial
theorem FrO.to {F F' : Hp} {o : Ob} {a : Addr} (e : F' a = F a) (h : FrO F o a) : FrO F' o a := by cases o <;> first | exact e.trans h | trivial
theorem FrO.out {F : Hp} {o : Ob} {a : Addr} (n : ∀ kvs, o ≠ .lok kvs) (h : FrO F o a) : F a = none := by cases o <;> first | exact h | exact absurd rfl (n _)

/-- F: what is frozen; β: where the store's objects stand -/
structure Sim (K : PySem.W.Frag) (cA : Str → Addr) (F : Hp) (β : List Addr) (S : Sto) (H : Hp) : Prop where
  sub : Same F H
  len : β.length = S.length
  inj : ∀ (i j : Nat) (a : Addr), β[i]? = some a → β[j]? = some a → i = j
  obj : ∀ (i : Nat) (o : Ob) (a : Addr), S[i]? = some o → β[i]? = some a → FrO F o a ∧ OR K F β cA H o a
  fresh : ∀ a ∈ β, H a ≠ none

def VRo (K : PySem.W.Frag) (F : Hp) (β : List Addr) : Option Va → Option V → Prop
  | some v, some x => VR K F β v x
  | some _, none => False
  | none, _ => True
def EnvR (K : PySem.W.Frag) (F : Hp) (β : List Addr) : Env → St → Prop
  | [], [] => True
  | v :: Γ, x :: σ => VRo K F β v x ∧ EnvR K F β Γ σ
  | _, _ => False

structure Ext (F : Hp) (β : List Addr) (F' : Hp) (β' : List Addr) : Prop where
  sub : Same F F'
  pre : β <+: β'

theorem SqL.mono {K : PySem.W.Frag} {F F' : Hp} (h : Same F F') {a : Addr} {xs : List V} (x : SqL K F a xs) : SqL K F' a xs := h.seq x
theorem SqT.mono {K : PySem.W.Frag} {F F' : Hp} (h : Same F F') {a : Addr} {xs : List V} (x : SqT K F a xs) : SqT K F' a xs := by
  rcases x with (x | ⟨o, x⟩) | x
  · exact .inl (.inl (h _ _ x))
  · exact .inl (.inr ⟨o, h _ _ x⟩)
  · exact .inr x
theorem Rd.mono {F F' : Hp} (h : Same F F') {a : Addr} {u : HO} (x : Rd F a u) : Rd F' a u := by
  rcases x with x | ⟨o, x⟩
  · exact .inl (h _ _ x)
  · exact .inr ⟨o, h _ _ x⟩
theorem pre_get {β β' : List Addr} (h : β <+: β') {n : Nat} {a : Addr} (e : β[n]? = some a) : β'[n]? = some a := by
  obtain ⟨t, rfl⟩ := h
  have hl : n < β.length := by
    by_cases q : n < β.length
    · exact q
    · rw [List.getElem?_eq_none (by omega)] at e; cases e
  rw [List.getElem?_append_left hl]; exact e

section
variable {K : PySem.W.Frag} {F F' : Hp} {β β' : List Addr} (h : Same F F') (hb : β <+: β')
include h hb
mutual
theorem VR.mono : ∀ (v : Va) (x : V), VR K F β v x → VR K F' β' v x
  | .non, x, q => q
  | .bl b, x, q => q
  | .int i, x, q => q
  | .str z, x, q => q
  | .tup xs, x, ⟨a, ys, e, s, r⟩ => ⟨a, ys, e, SqT.mono h s, VRs.mono xs ys r⟩
  | .lst xs, x, ⟨a, ys, e, s, r⟩ => ⟨a, ys, e, h _ _ s, VRs.mono xs ys r⟩
  | .dct kvs, x, ⟨a, ys, e, s, r⟩ => ⟨a, ys, e, h _ _ s, VRk.mono kvs ys r⟩
  | .loc n, x, ⟨a, e, q⟩ => ⟨a, e, pre_get hb q⟩
  | .scr ns, x, ⟨a, e, q⟩ => ⟨a, e, SqL.mono h q⟩
  | .exc a, x, q => q
  | .fnv z ws, x, ⟨e, q, r⟩ => ⟨e, h _ _ q, VRs.mono ws z.xs r⟩
theorem VRs.mono : ∀ (v : List Va) (x : List V), VRs K F β v x → VRs K F' β' v x
  | [], x, q => q
  | v :: vs, x, ⟨y, r, e, q, qs⟩ => ⟨y, r, e, VR.mono v y q, VRs.mono vs r qs⟩
theorem VRk.mono : ∀ (v : List (Key × Va)) (x : List (Key × V)), VRk K F β v x → VRk K F' β' v x
  | [], x, q => q
  | (k, v) :: vs, x, ⟨y, r, e, q, qs⟩ => ⟨y, r, e, VR.mono v y q, VRk.mono vs r qs⟩
end
theorem VRf.mono : ∀ (v : List (Str × Va)) (x : List (Str × V)), VRf K F β v x → VRf K F' β' v x
  | [], x, q => q
  | (k, v) :: vs, x, ⟨y, r, e, q, qs⟩ => ⟨y, r, e, VR.mono h hb v y q, VRf.mono vs r qs⟩
theorem VRo.mono : ∀ (v : Option Va) (x : Option V), VRo K F β v x → VRo K F' β' v x
  | some v, some x, q => VR.mono h hb v x q
  | none, _, _ => trivial
theorem EnvR.mono : ∀ (Γ : Env) (σ : St), EnvR K F β Γ σ → EnvR K F' β' Γ σ
  | [], [], _ => trivial
  | v :: Γ, x :: σ, ⟨q, r⟩ => ⟨VRo.mono h hb v x q, EnvR.mono Γ σ r⟩
end
theorem Ext.refl (F : Hp) (β : List Addr) : Ext F β F β := ⟨Same.refl F, List.prefix_refl β⟩
theorem Ext.trans {F F1 F2 : Hp} {β β1 β2 : List Addr} (a : Ext F β F1 β1) (b : Ext F1 β1 F2 β2) : Ext F β F2 β2 := ⟨a.sub.trans b.sub, a.pre.trans b.pre⟩

section
variable {K : PySem.W.Frag} {F : Hp} {β : List Addr}
theorem EnvR.get : ∀ {Γ : Env} {σ : St} {i : Nat} {v : Va}, EnvR K F β Γ σ → gt Γ i = some v → ∃ x, σ[i]? = some (some x) ∧ VR K F β v x
  | [], _, i, v, _, e => by simp [gt] at e
  | o :: Γ, [], i, v, h, e => by simp [EnvR] at h
  | o :: Γ, x :: σ, 0, v, ⟨h, _⟩, e => by
    have e' : o = some v := e
    subst e'
    cases x with
    | none => exact h.elim
    | some x => exact ⟨x, rfl, h⟩
  | o :: Γ, x :: σ, i + 1, v, ⟨_, h⟩, e => by
    obtain ⟨y, e1, r⟩ := EnvR.get (i := i) h e
    exact ⟨y, by simpa using e1, r⟩
theorem EnvR.set : ∀ {Γ : Env} {σ : St} {i : Nat} {v : Va} {x : V}, EnvR K F β Γ σ → VR K F β v x → EnvR K F β (Γ.set i (some v)) (σ.set i (some x))
  | [], [], _, _, _, _, _ => trivial
  | [], _ :: _, _, _, _, h, _ => by simp [EnvR] at h
  | _ :: _, [], _, _, _, h, _ => by simp [EnvR] at h
  | o :: Γ, y :: σ, 0, v, x, ⟨_, h⟩, r => ⟨r, h⟩
  | o :: Γ, y :: σ, i + 1, v, x, ⟨q, h⟩, r => ⟨q, EnvR.set h r⟩
theorem EnvR.len : ∀ {Γ : Env} {σ : St}, EnvR K F β Γ σ → Γ.length = σ.length
  | [], [], _ => rfl
  | [], _ :: _, h => by simp [EnvR] at h
  | _ :: _, [], h => by simp [EnvR] at h
  | _ :: Γ, _ :: σ, ⟨_, h⟩ => by simp [EnvR.len h]
theorem VRs.len : ∀ {xs : List Va} {ys : List V}, VRs K F β xs ys → xs.length = ys.length
  | [], _, h => by cases (show _ = [] from h); rfl
  | x :: xs, _, ⟨y, r, e, _, q⟩ => by subst e; simp [VRs.len q]
theorem VRs.get : ∀ {xs : List Va} {ys : List V} {i : Nat} {v : Va}, VRs K F β xs ys → xs[i]? = some v → ∃ x, ys[i]? = some x ∧ VR K F β v x
  | [], _, i, v, _, e => by simp at e
  | x :: xs, _, 0, v, ⟨y, r, e, q, _⟩, h => by subst e; simp at h; subst h; exact ⟨y, rfl, q⟩
  | x :: xs, _, i + 1, v, ⟨y, r, e, _, q⟩, h => by
    subst e
    obtain ⟨z, e1, r1⟩ := VRs.get (i := i) (v := v) q (by simpa using h)
    exact ⟨z, by simpa using e1, r1⟩
theorem VRs.append : ∀ {xs xs' : List Va} {ys ys' : List V}, VRs K F β xs ys → VRs K F β xs' ys' → VRs K F β (xs ++ xs') (ys ++ ys')
  | [], _, _, _, h, q => by cases (show _ = [] from h); exact q
  | x :: xs, _, _, _, ⟨y, r, e, q, qs⟩, h => by subst e; exact ⟨y, _, rfl, q, VRs.append qs h⟩
end

theorem EnvR.wipe1 {K : PySem.W.Frag} {F : Hp} {β : List Addr} : ∀ {Γ : Env} {σ : St} {i : Nat} {o : Option V}, EnvR K F β Γ σ → EnvR K F β (Γ.set i none) (σ.set i o)
  | [], [], _, _, _ => trivial
  | [], _ :: _, _, _, h => by simp [EnvR] at h
  | _ :: _, [], _, _, h => by simp [EnvR] at h
  | o :: Γ, y :: σ, 0, _, ⟨_, h⟩ => ⟨trivial, h⟩
  | o :: Γ, y :: σ, i + 1, _, ⟨q, h⟩ => ⟨q, EnvR.wipe1 h⟩
theorem VRs.ints {K : PySem.W.Frag} {F : Hp} {β : List Addr} : ∀ {ns : List Int} {ys : List V}, VRs K F β (ns.map Va.int) ys ↔ ys = ns.map V.int
  | [], ys => Iff.rfl
  | n :: ns, ys => by
    constructor
    · rintro ⟨y, r, e, q, qs⟩
      cases (show y = .int n from q)
      rw [e, VRs.ints.mp qs]; rfl
    · rintro rfl
      exact ⟨.int n, ns.map V.int, rfl, rfl, VRs.ints.mpr rfl⟩
theorem VRs.bls {K : PySem.W.Frag} {F : Hp} {β : List Addr} : ∀ {ns : List Bool} {ys : List V}, VRs K F β (ns.map Va.bl) ys ↔ ys = ns.map V.bl
  | [], ys => Iff.rfl
  | n :: ns, ys => by
    constructor
    · rintro ⟨y, r, e, q, qs⟩
      cases (show y = .bl n from q)
      rw [e, VRs.bls.mp qs]; rfl
    · rintro rfl
      exact ⟨.bl n, ns.map V.bl, rfl, rfl, VRs.bls.mpr rfl⟩
theorem VRs.strs {K : PySem.W.Frag} {F : Hp} {β : List Addr} : ∀ {ns : List Str} {ys : List V}, VRs K F β (ns.map Va.str) ys ↔ ys = ns.map V.str
  | [], ys => Iff.rfl
  | n :: ns, ys => by
    constructor
    · rintro ⟨y, r, e, q, qs⟩
      cases (show y = .str n from q)
      rw [e, VRs.strs.mp qs]; rfl
    · rintro rfl
      exact ⟨.str n, ns.map V.str, rfl, rfl, VRs.strs.mpr rfl⟩
section
variable {K : PySem.W.Frag} {cA : Str → Addr} {F : Hp} {β : List Addr} {S : Sto} {H : Hp}
theorem OR.mono {F' : Hp} {β' : List Addr} {H' : Hp} (h : Same F F') (hb : β <+: β') {o : Ob} {a : Addr} (e : H' a = H a) (q : OR K F β cA H o a) : OR K F' β' cA H' o a := by
  cases o with
  | lst xs => obtain ⟨ys, e1, r⟩ := q; exact ⟨ys, e.trans e1, VRs.mono h hb _ _ r⟩
  | dct kvs => obtain ⟨ys, e1, r⟩ := q; exact ⟨ys, e.trans e1, VRk.mono h hb _ _ r⟩
  | ins C fs => obtain ⟨dx, ys, e1, r⟩ := q; exact ⟨dx, ys, e.trans e1, VRf.mono h hb _ _ r⟩
  | dead => trivial
  | lok kvs => obtain ⟨od, ys, e1, r⟩ := q; exact ⟨od, ys, h _ _ e1, VRk.mono h hb _ _ r⟩
  | tab z => obtain ⟨e0, ps, e1, t, r⟩ := q; exact ⟨e0, ps, e.trans e1, t, fun p cv z => let ⟨c, e2, e3⟩ := r p cv z; ⟨c, e2, h _ _ e3⟩⟩
theorem lt_of_get {α : Type} {l : List α} {i : Nat} {x : α} (e : l[i]? = some x) : i < l.length := by
  by_cases q : i < l.length
  · exact q
  · rw [List.getElem?_eq_none (by omega)] at e; cases e
theorem Sim.at (s : Sim K cA F β S H) {k : Nat} {o : Ob} (e : S[k]? = some o) : ∃ a, β[k]? = some a ∧ FrO F o a ∧ OR K F β cA H o a := by
  have hk := lt_of_get e
  have hk2 : k < β.length := by rw [s.len]; exact hk
  exact ⟨β[k], by simp [hk2], s.obj k o _ e (by simp [hk2])⟩
/-- a frozen object laid -/
theorem Sim.lay (s : Sim K cA F β S H) {p : Addr} (hp : H p = none) (o : HO) : Sim K cA (upd F p o) β S (upd H p o) ∧ Same F (upd F p o) := by
  have fp : F p = none := s.sub.free hp
  have sub : Same F (upd F p o) := fun b u e => by rw [upd_ne (ne_of_none e fp)]; exact e
  have hne : ∀ a ∈ β, a ≠ p := fun a ha e => s.fresh a ha (e ▸ hp)
  refine ⟨⟨fun b u e => ?_, s.len, s.inj, fun i ob a e1 e2 => ?_, fun a ha => ?_⟩, sub⟩
  · by_cases hb : b = p
    · subst hb; rw [upd_same] at e ⊢; exact e
    · rw [upd_ne hb] at e ⊢; exact s.sub _ _ e
  · obtain ⟨h1, h2⟩ := s.obj i ob a e1 e2
    have ha : a ≠ p := hne a (List.mem_of_getElem? e2)
    exact ⟨h1.to (upd_ne ha), OR.mono sub (List.prefix_refl _) (by rw [upd_ne ha]) h2⟩
  · rw [upd_ne (hne a ha)]; exact s.fresh a ha
/-- an object of the store laid -/
theorem Sim.new (s : Sim K cA F β S H) {p : Addr} (hp : H p = none) {o : Ob} {u : HO} (q : OR K F (β ++ [p]) cA (upd H p u) o p) : Sim K cA F (β ++ [p]) (S ++ [o]) (upd H p u) := by
  have fp : F p = none := s.sub.free hp
  have hne : ∀ a ∈ β, a ≠ p := fun a ha e => s.fresh a ha (e ▸ hp)
  refine ⟨fun b v e => ?_, by simp [s.len], fun i j a e1 e2 => ?_, fun i ob a e1 e2 => ?_, fun a ha => ?_⟩
  · rw [upd_ne (ne_of_none e fp)]; exact s.sub _ _ e
  · have key : ∀ i, (β ++ [p])[i]? = some a → (β[i]? = some a ∧ i < β.length) ∨ (i = β.length ∧ a = p) := fun i e => by
      by_cases hi : i < β.length
      · rw [List.getElem?_append_left hi] at e; exact .inl ⟨e, hi⟩
      · rw [List.getElem?_append_right (by omega)] at e
        have hl := lt_of_get e
        simp only [List.length_singleton] at hl
        have h0 : i - β.length = 0 := by omega
        rw [h0] at e
        exact .inr ⟨by omega, (Option.some.inj e).symm⟩
    rcases key i e1 with ⟨x1, _⟩ | ⟨x1, y1⟩
    · rcases key j e2 with ⟨x2, _⟩ | ⟨x2, y2⟩
      · exact s.inj i j a x1 x2
      · exact absurd y2 (hne a (List.mem_of_getElem? x1))
    · rcases key j e2 with ⟨x2, _⟩ | ⟨x2, y2⟩
      · exact absurd y1 (hne a (List.mem_of_getElem? x2))
      · omega
  · by_cases hi : i < S.length
    · have hib : i < β.length := by rw [s.len]; exact hi
      rw [List.getElem?_append_left hi] at e1
      rw [List.getElem?_append_left hib] at e2
      obtain ⟨h1, h2⟩ := s.obj i ob a e1 e2
      exact ⟨h1, OR.mono (Same.refl _) (List.prefix_append _ _) (by rw [upd_ne (hne a (List.mem_of_getElem? e2))]) h2⟩
    · have hib : ¬ i < β.length := by rw [s.len]; exact hi
      rw [List.getElem?_append_right (by omega)] at e1 e2
      have hl := lt_of_get e1
      simp only [List.length_singleton] at hl
      have h0 : i - S.length = 0 := by omega
      have h0' : i - β.length = 0 := by rw [s.len]; exact h0
      rw [h0] at e1
      rw [h0'] at e2
      cases (Option.some.inj e1 : o = ob)
      cases (Option.some.inj e2 : p = a)
      exact ⟨.of fp, q⟩
  · rcases List.mem_append.mp ha with h1 | h1
    · rw [upd_ne (hne a h1)]; exact s.fresh a h1
    · have : a = p := by simpa using h1
      subst this
      rw [upd_same]; simp
/-- an object of the store changed -/
theorem Sim.put (s : Sim K cA F β S H) {k : Nat} {a : Addr} {o : Ob} {u : HO} (hk : k < S.length) (ha : β[k]? = some a) (fa : F a = none) (q : OR K F β cA (upd H a u) o a) : Sim K cA F β (S.set k o) (upd H a u) := by
  refine ⟨fun b v e => ?_, by simp [s.len], s.inj, fun i ob b e1 e2 => ?_, fun b hb => ?_⟩
  · rw [upd_ne (ne_of_none e fa)]; exact s.sub _ _ e
  · by_cases hi : k = i
    · subst hi
      rw [List.getElem?_set_self hk] at e1
      cases (Option.some.inj e1 : o = ob)
      rw [ha] at e2
      cases (Option.some.inj e2 : a = b)
      exact ⟨.of fa, q⟩
    · rw [List.getElem?_set_ne hi] at e1
      obtain ⟨h1, h2⟩ := s.obj i ob b e1 e2
      have hb : b ≠ a := fun z => hi (s.inj k i a ha (z ▸ e2))
      exact ⟨h1, OR.mono (Same.refl _) (List.prefix_refl _) (by rw [upd_ne hb]) h2⟩
  · by_cases hba : b = a
    · subst hba; rw [upd_same]; simp
    · rw [upd_ne hba]; exact s.fresh b hb
end
/-! ### a dict of the store locked and given free -/
section
variable {K : PySem.W.Frag} {F F' : Hp} {β : List Addr}
/-- what is kept but a locked dict -/
def KeepF (F F' : Hp) : Prop := ∀ b o, F b = some o → (∀ od ys, o ≠ .frz od (.dK ys)) → F' b = some o
theorem KeepF.tup (h : KeepF F F') {a : Addr} {xs : List V} (x : SqT K F a xs) : SqT K F' a xs := by
  rcases x with (x | ⟨o, x⟩) | x
  · exact .inl (.inl (h _ _ x (fun _ _ z => by cases z)))
  · exact .inl (.inr ⟨o, h _ _ x (fun _ _ z => by cases z)⟩)
  · exact .inr x
theorem KeepF.lst (h : KeepF F F') {a : Addr} {xs : List V} (x : SqL K F a xs) : SqL K F' a xs := by
  rcases x with (x | ⟨o, x⟩) | x
  · exact .inl (.inl (h _ _ x (fun _ _ z => by cases z)))
  · exact .inl (.inr ⟨o, h _ _ x (fun _ _ z => by cases z)⟩)
  · exact .inr x
section
variable (h : KeepF F F')
include h
mutual
theorem VR.unf : ∀ (v : Va) (x : V), VR K F β v x → VR K F' β v x
  | .non, x, q => q
  | .bl b, x, q => q
  | .int i, x, q => q
  | .str z, x, q => q
  | .tup xs, x, ⟨a, ys, e, s, r⟩ => ⟨a, ys, e, h.tup s, VRs.unf xs ys r⟩
  | .lst xs, x, ⟨a, ys, e, s, r⟩ => ⟨a, ys, e, h _ _ s (fun _ _ z => by cases z), VRs.unf xs ys r⟩
  | .dct kvs, x, ⟨a, ys, e, s, r⟩ => ⟨a, ys, e, h _ _ s (fun _ _ z => by cases z), VRk.unf kvs ys r⟩
  | .loc n, x, ⟨a, e, q⟩ => ⟨a, e, q⟩
  | .scr ns, x, ⟨a, e, q⟩ => ⟨a, e, h.lst q⟩
  | .exc a, x, q => q
  | .fnv z ws, x, ⟨e, q, r⟩ => ⟨e, h _ _ q (fun _ _ z => by unfold LamX.CodeO at z; cases z), VRs.unf ws z.xs r⟩
theorem VRs.unf : ∀ (v : List Va) (x : List V), VRs K F β v x → VRs K F' β v x
  | [], x, q => q
  | v :: vs, x, ⟨y, r, e, q, qs⟩ => ⟨y, r, e, VR.unf v y q, VRs.unf vs r qs⟩
theorem VRk.unf : ∀ (v : List (Key × Va)) (x : List (Key × V)), VRk K F β v x → VRk K F' β v x
  | [], x, q => q
  | (k, v) :: vs, x, ⟨y, r, e, q, qs⟩ => ⟨y, r, e, VR.unf v y q, VRk.unf vs r qs⟩
end
theorem VRf.unf : ∀ (v : List (Str × Va)) (x : List (Str × V)), VRf K F β v x → VRf K F' β v x
  | [], x, q => q
  | (k, v) :: vs, x, ⟨y, r, e, q, qs⟩ => ⟨y, r, e, VR.unf h v y q, VRf.unf vs r qs⟩
theorem VRo.unf : ∀ (v : Option Va) (x : Option V), VRo K F β v x → VRo K F' β v x
  | some v, some x, q => VR.unf h v x q
  | none, _, _ => trivial
theorem EnvR.unf : ∀ (Γ : Env) (σ : St), EnvR K F β Γ σ → EnvR K F' β Γ σ
  | [], [], _ => trivial
  | v :: Γ, x :: σ, ⟨q, r⟩ => ⟨VRo.unf h v x q, EnvR.unf Γ σ r⟩
end
variable {cA : Str → Addr} {S : Sto} {H : Hp}
theorem OR.unf {H' : Hp} (h : KeepF F F') {o : Ob} {a : Addr} (e : H' a = H a) (ef : F' a = F a) (q : OR K F β cA H o a) : OR K F' β cA H' o a := by
  cases o with
  | lst xs => obtain ⟨ys, e1, r⟩ := q; exact ⟨ys, e.trans e1, VRs.unf h _ _ r⟩
  | dct kvs => obtain ⟨ys, e1, r⟩ := q; exact ⟨ys, e.trans e1, VRk.unf h _ _ r⟩
  | ins C fs => obtain ⟨dx, ys, e1, r⟩ := q; exact ⟨dx, ys, e.trans e1, VRf.unf h _ _ r⟩
  | dead => trivial
  | lok kvs => obtain ⟨od, ys, e1, r⟩ := q; exact ⟨od, ys, ef.trans e1, VRk.unf h _ _ r⟩
  | tab z => obtain ⟨e0, ps, e1, t, r⟩ := q; exact ⟨e0, ps, e.trans e1, t, fun p cv z => let ⟨c, e2, e3⟩ := r p cv z; ⟨c, e2, h _ _ e3 (fun _ _ z => by unfold LamX.CodeO at z; cases z)⟩⟩
theorem Sim.lock (s : Sim K cA F β S H) {k : Nat} {a : Addr} {od : Obj} {kvs : List (Key × Va)} {ys : List (Key × V)} (hk : k < S.length) (ha : β[k]? = some a) (fa : F a = none) (r : VRk K F β kvs ys) (he : H a ≠ none) :
    Sim K cA (upd F a (.frz od (.dK ys))) β (S.set k (.lok kvs)) (upd H a (.frz od (.dK ys))) ∧ Same F (upd F a (.frz od (.dK ys))) := by
  have sub : Same F (upd F a (.frz od (.dK ys))) := fun b u e => by rw [upd_ne (ne_of_none e fa)]; exact e
  refine ⟨⟨fun b v e => ?_, by simp [s.len], s.inj, fun i ob b e1 e2 => ?_, fun b hb => ?_⟩, sub⟩
  · by_cases hb : b = a
    · subst hb; rw [upd_same] at e ⊢; exact e
    · rw [upd_ne hb] at e ⊢; exact s.sub _ _ e
  · by_cases hi : k = i
    · subst hi
      rw [List.getElem?_set_self hk] at e1
      cases (Option.some.inj e1 : Ob.lok kvs = ob)
      rw [ha] at e2
      cases (Option.some.inj e2 : a = b)
      exact ⟨trivial, od, ys, upd_same, VRk.mono sub (List.prefix_refl _) _ _ r⟩
    · rw [List.getElem?_set_ne hi] at e1
      obtain ⟨h1, h2⟩ := s.obj i ob b e1 e2
      have hb : b ≠ a := fun z => hi (s.inj k i a ha (z ▸ e2))
      exact ⟨h1.to (upd_ne hb), OR.mono sub (List.prefix_refl _) (by rw [upd_ne hb]) h2⟩
  · by_cases hba : b = a
    · subst hba; rw [upd_same]; simp
    · rw [upd_ne hba]; exact s.fresh b hb
def dropF (F : Hp) (a : Addr) : Hp := fun b => if b = a then none else F b
theorem Sim.unlock (s : Sim K cA F β S H) {k : Nat} {a : Addr} {od : Obj} {kvs : List (Key × Va)} {ys : List (Key × V)} (hk : S[k]? = some (.lok kvs)) (ha : β[k]? = some a) (fa : F a = some (.frz od (.dK ys))) :
    Sim K cA (dropF F a) β (S.set k (.dct kvs)) (upd H a (.dK ys)) ∧ KeepF F (dropF F a) := by
  have keep : KeepF F (dropF F a) := fun b o e n => by
    have hb : b ≠ a := fun z => by
      subst z
      rw [fa] at e
      cases e
      exact n _ _ rfl
    show (if b = a then none else F b) = _
    rw [if_neg hb]; exact e
  have nef : ∀ b, b ≠ a → dropF F a b = F b := fun b hb => if_neg hb
  refine ⟨⟨fun b v e => ?_, by simp [s.len], s.inj, fun i ob b e1 e2 => ?_, fun b hb => ?_⟩, keep⟩
  · have hb : b ≠ a := fun z => by
      subst z
      rw [show dropF F b b = none from if_pos rfl] at e
      cases e
    rw [nef b hb] at e
    rw [upd_ne hb]; exact s.sub _ _ e
  · by_cases hi : k = i
    · subst hi
      rw [List.getElem?_set_self (lt_of_get hk)] at e1
      cases (Option.some.inj e1 : Ob.dct kvs = ob)
      rw [ha] at e2
      cases (Option.some.inj e2 : a = b)
      obtain ⟨_, od', ys', e3, r⟩ := s.obj k _ a hk ha
      rw [fa] at e3
      cases e3
      exact ⟨(if_pos rfl : dropF F a a = none), ys, upd_same, VRk.unf keep _ _ r⟩
    · rw [List.getElem?_set_ne hi] at e1
      obtain ⟨h1, h2⟩ := s.obj i ob b e1 e2
      have hb : b ≠ a := fun z => hi (s.inj k i a ha (z ▸ e2))
      exact ⟨h1.to (nef b hb), OR.unf keep (by rw [upd_ne hb]) (nef b hb) h2⟩
  · by_cases hba : b = a
    · subst hba; rw [upd_same]; simp
    · rw [upd_ne hba]; exact s.fresh b hb
end
end AM
end

section
set_option linter.all false
set_option maxRecDepth 100000
set_option maxHeartbeats 4000000
/-! AM, third part: weaker ends; calls. -/
namespace AM
open PySem L2

section
variable {S : Sto} {P P' : PV} (hP : ∀ v S, P v S → P' v S)
include hP
theorem inO_mono {neg : Bool} {x : Va} {k : Nat} {o : Ob} (h : inO S neg x k o P) : inO S neg x k o P' := by
  unfold inO at h ⊢
  split at h <;> (revert h; repeat' first | exact False.elim | exact hP _ _ | refine Exists.imp fun _ => ?_ | refine And.imp_right ?_)
theorem lenO_mono {o : Ob} (h : lenO o S P) : lenO o S P' := by
  unfold lenO at h ⊢
  split at h <;> (revert h; repeat' first | exact False.elim | exact hP _ _ | refine Exists.imp fun _ => ?_ | refine And.imp_right ?_)
theorem subO_mono {o : Ob} {y : Va} (h : subO o y S P) : subO o y S P' := by
  unfold subO at h ⊢
  split at h <;> (revert h; repeat' first | exact False.elim | exact hP _ _ | refine Exists.imp fun _ => ?_ | refine And.imp_right ?_)
theorem listO_mono {o : Ob} (h : listO o S P) : listO o S P' := by
  unfold listO at h ⊢
  split at h <;> (revert h; repeat' first | exact False.elim | exact hP _ _ | refine Exists.imp fun _ => ?_ | refine And.imp_right ?_)
theorem wCat_mono {x y : Va} (h : wCat x y S P) : wCat x y S P' := by
  unfold wCat at h ⊢
  (revert h; repeat' first | exact False.elim | exact hP _ _ | exact inO_mono hP | exact lenO_mono hP | exact subO_mono hP | exact listO_mono hP | exact fun q m a b => hP _ _ (q m a b) | exact fun q y ys i u a b c => hP _ _ (q y ys i u a b c) | refine Or.imp ?_ ?_ | refine Exists.imp fun _ => ?_ | refine And.imp_right ?_)
theorem wBin_mono {op : Bop} {x y : Va} (h : wBin op x y S P) : wBin op x y S P' := by
  unfold wBin at h ⊢
  split at h <;> first | exact h.elim | exact wCat_mono hP h | (revert h; repeat' first | exact False.elim | exact hP _ _ | exact inO_mono hP | exact lenO_mono hP | exact subO_mono hP | exact listO_mono hP | exact fun q m a b => hP _ _ (q m a b) | exact fun q y ys i u a b c => hP _ _ (q y ys i u a b c) | refine Or.imp ?_ ?_ | refine Exists.imp fun _ => ?_ | refine And.imp_right ?_)
theorem wNeg_mono {x : Va} (h : wNeg x S P) : wNeg x S P' := by
  unfold wNeg at h ⊢
  split at h <;> (revert h; repeat' first | exact False.elim | exact hP _ _ | exact inO_mono hP | exact lenO_mono hP | exact subO_mono hP | exact listO_mono hP | exact fun q m a b => hP _ _ (q m a b) | exact fun q y ys i u a b c => hP _ _ (q y ys i u a b c) | refine Or.imp ?_ ?_ | refine Exists.imp fun _ => ?_ | refine And.imp_right ?_)
theorem wFmt_mono {x : Va} (h : wFmt x S P) : wFmt x S P' := by
  unfold wFmt at h ⊢
  split at h <;> first | exact h.elim | exact ⟨h.1, hP _ _ h.2⟩
theorem wCmp_mono {op : Cop} {x y : Va} (h : wCmp op x y S P) : wCmp op x y S P' := by
  unfold wCmp at h ⊢
  split at h
  all_goals first | exact h.elim | (rcases h with (⟨h1, h2⟩ | ⟨h1, h2⟩) | ⟨d, e, h1, h2, h3, h4, h5⟩; exact .inl (.inl ⟨h1, hP _ _ h2⟩); exact .inl (.inr ⟨h1, hP _ _ h2⟩); exact .inr ⟨d, e, h1, h2, h3, h4, hP _ _ h5⟩) | skip
  all_goals (revert h; repeat' first | exact False.elim | exact hP _ _ | exact inO_mono hP | exact lenO_mono hP | exact subO_mono hP | exact listO_mono hP | exact fun q m a b => hP _ _ (q m a b) | exact fun q y ys i u a b c => hP _ _ (q y ys i u a b c) | refine Or.imp ?_ ?_ | refine Exists.imp fun _ => ?_ | refine And.imp_right ?_)
theorem wLen_mono {x : Va} (h : wLen x S P) : wLen x S P' := by
  unfold wLen at h ⊢
  split at h <;> (revert h; repeat' first | exact False.elim | exact hP _ _ | exact inO_mono hP | exact lenO_mono hP | exact subO_mono hP | exact listO_mono hP | exact fun q m a b => hP _ _ (q m a b) | exact fun q y ys i u a b c => hP _ _ (q y ys i u a b c) | refine Or.imp ?_ ?_ | refine Exists.imp fun _ => ?_ | refine And.imp_right ?_)
theorem wAbs_mono {x : Va} (h : wAbs x S P) : wAbs x S P' := by
  unfold wAbs at h ⊢
  split at h <;> (revert h; repeat' first | exact False.elim | exact hP _ _ | exact inO_mono hP | exact lenO_mono hP | exact subO_mono hP | exact listO_mono hP | exact fun q m a b => hP _ _ (q m a b) | exact fun q y ys i u a b c => hP _ _ (q y ys i u a b c) | refine Or.imp ?_ ?_ | refine Exists.imp fun _ => ?_ | refine And.imp_right ?_)
theorem wSub_mono {x y : Va} (h : wSub x y S P) : wSub x y S P' := by
  unfold wSub at h ⊢
  split at h <;> (revert h; repeat' first | exact False.elim | exact hP _ _ | exact inO_mono hP | exact lenO_mono hP | exact subO_mono hP | exact listO_mono hP | exact fun q m a b => hP _ _ (q m a b) | exact fun q y ys i u a b c => hP _ _ (q y ys i u a b c) | refine Or.imp ?_ ?_ | refine Exists.imp fun _ => ?_ | refine And.imp_right ?_)
theorem wSlice_mono {x : Va} {lo hi : Option Int} (h : wSlice x lo hi S P) : wSlice x lo hi S P' := by
  unfold wSlice at h ⊢
  split at h <;> (revert h; repeat' first | exact False.elim | exact hP _ _ | exact inO_mono hP | exact lenO_mono hP | exact subO_mono hP | exact listO_mono hP | exact fun q m a b => hP _ _ (q m a b) | exact fun q y ys i u a b c => hP _ _ (q y ys i u a b c) | refine Or.imp ?_ ?_ | refine Exists.imp fun _ => ?_ | refine And.imp_right ?_)
theorem wBlt_mono {f : Bf} {vs : List Va} (h : wBlt f vs S P) : wBlt f vs S P' := by
  unfold wBlt at h ⊢
  split at h <;> (revert h; repeat' first | exact False.elim | exact hP _ _ | exact inO_mono hP | exact lenO_mono hP | exact subO_mono hP | exact listO_mono hP | exact fun q m a b => hP _ _ (q m a b) | exact fun q y ys i u a b c => hP _ _ (q y ys i u a b c) | refine Or.imp ?_ ?_ | refine Exists.imp fun _ => ?_ | refine And.imp_right ?_)
theorem wMth_mono {m : Mf} {o : Va} {vs : List Va} (h : wMth m o vs S P) : wMth m o vs S P' := by
  unfold wMth at h ⊢
  split at h <;> (revert h; repeat' first | exact False.elim | exact hP _ _ | exact inO_mono hP | exact lenO_mono hP | exact subO_mono hP | exact listO_mono hP | exact fun q m a b => hP _ _ (q m a b) | exact fun q y ys i u a b c => hP _ _ (q y ys i u a b c) | refine Or.imp ?_ ?_ | refine Exists.imp fun _ => ?_ | refine And.imp_right ?_)
end
section
variable {S : Sto} {P P' : PI_} (hP : ∀ xs G S, P xs G S → P' xs G S)
include hP
theorem wSeq_mono {x : Va} (h : wSeq x S P) : wSeq x S P' := by
  unfold wSeq at h ⊢
  split at h <;> (revert h; repeat' first | exact False.elim | exact hP _ _ _ | refine Exists.imp fun _ => ?_ | refine And.imp_right ?_)
theorem wLst_mono {x : Va} (h : wLst x S P) : wLst x S P' := by
  unfold wLst at h ⊢
  split at h <;> (revert h; repeat' first | exact False.elim | exact hP _ _ _ | refine Exists.imp fun _ => ?_ | refine And.imp_right ?_)
theorem wEn_mono {x : Va} (h : wEn x S P) : wEn x S P' := by
  unfold wEn at h ⊢
  split at h
  · exact hP _ _ _ h
  · exact wLst_mono hP h
end
theorem cpL_mono {bind : Va → Sto → Option Env} {t t' : Env → Sto → (Bool → Sto → Prop) → Prop} {e e' : Env → Sto → PV → Prop} {G : Sto → Prop} {d : Nat} {P P' : PV}
    (ht : ∀ Γ S P P', (∀ k S, P k S → P' k S) → t Γ S P → t' Γ S P') (he : ∀ Γ S (P P' : PV), (∀ v S, P v S → P' v S) → e Γ S P → e' Γ S P') (hP : ∀ v S, P v S → P' v S) :
    ∀ xs S, cpL bind t e G d P xs S → cpL bind t' e' G d P' xs S
  | [], S, h => hP _ _ h
  | x :: xs, S, ⟨Γ1, h1, h2⟩ => ⟨Γ1, h1, ht _ _ _ _ (fun b S2 q => by
      cases b with
      | true => exact he _ _ _ _ (fun v S3 ⟨acc, q1, q2, q3, q4⟩ => ⟨acc, q1, q2, q3, cpL_mono ht he hP xs _ q4⟩) q
      | false => exact ⟨q.1, cpL_mono ht he hP xs _ q.2⟩) h2⟩

/-- the same oracle with other runs, and with more functions known -/
abbrev Orc.up (C : Orc) (r : Str → List Va → Sto → PV → PX → Prop) (rc : Clo → Str → List Va → Sto → PV → PX → Prop) (fs : List Clo) : Orc := ⟨r, C.meth, C.noat, C.init, C.glob, C.isa, C.gdct, C.xk, C.cur, fs, rc, C.dfl, C.mkf⟩
structure OrcUp (C : Orc) (r : Str → List Va → Sto → PV → PX → Prop) (rc : Clo → Str → List Va → Sto → PV → PX → Prop) (fs : List Clo) : Prop where
  run : ∀ f vs S P P' E E', (∀ v S, P v S → P' v S) → (∀ x S, E x S → E' x S) → C.run f vs S P E → r f vs S P' E'
  runC : ∀ z f vs S P P' E E', (∀ v S, P v S → P' v S) → (∀ x S, E x S → E' x S) → C.runC z f vs S P E → rc z f vs S P' E'
  fns : ∀ z ∈ C.fns, z ∈ fs
abbrev OrcMono (C : Orc) : Prop := OrcUp C C.run C.runC C.fns
theorem xkAny_up {C : Orc} {r : Str → List Va → Sto → PV → PX → Prop} {rc : Clo → Str → List Va → Sto → PV → PX → Prop} {fs : List Clo} {c : Str} : ∀ {xs : List Str}, xkAny (C.up r rc fs) c xs = xkAny C c xs
  | [] => rfl
  | x :: xs => by
    have ih := xkAny_up (C := C) (r := r) (rc := rc) (fs := fs) (c := c) (xs := xs)
    simp only [xkAny, ih]
section
variable {C : Orc} {r : Str → List Va → Sto → PV → PX → Prop} {rc : Clo → Str → List Va → Sto → PV → PX → Prop} {fs : List Clo} (hC : OrcUp C r rc fs)
include hC
mutual
theorem W_mono : ∀ (m : Ex) (Γ : Env) (S : Sto) (P P' : PV) (E E' : PX), (∀ v S, P v S → P' v S) → (∀ x S, E x S → E' x S) → W C m Γ S P E → W (C.up r rc fs) m Γ S P' E'
  | .var i, Γ, S, P, P', E, E', hP, hE, ⟨v, e, q⟩ => ⟨v, e, hP _ _ q⟩
  | .int i, Γ, S, P, P', E, E', hP, hE, h => hP _ _ h
  | .bl b, Γ, S, P, P', E, E', hP, hE, h => hP _ _ h
  | .non, Γ, S, P, P', E, E', hP, hE, h => hP _ _ h
  | .str x, Γ, S, P, P', E, E', hP, hE, h => hP _ _ h
  | .glob x, Γ, S, P, P', E, E', hP, hE, ⟨v, e, h⟩ => ⟨v, e, hP _ _ h⟩
  | .tup es, Γ, S, P, P', E, E', hP, hE, h => WL_mono es Γ S _ _ E E' (fun vs S ⟨h1, h2⟩ => ⟨h1, hP _ _ h2⟩) hE h
  | .lst es, Γ, S, P, P', E, E', hP, hE, h => WL_mono es Γ S _ _ E E' (fun vs S ⟨h1, h2⟩ => ⟨h1, hP _ _ h2⟩) hE h
  | .bin op a b, Γ, S, P, P', E, E', hP, hE, h => W_mono a Γ S _ _ E E' (fun x S1 h1 => W_mono b Γ S1 _ _ E E' (fun y S2 h2 => wBin_mono hP h2) hE h1) hE h
  | .neg a, Γ, S, P, P', E, E', hP, hE, h => W_mono a Γ S _ _ E E' (fun x S1 h1 => wNeg_mono hP h1) hE h
  | .cmp op a b, Γ, S, P, P', E, E', hP, hE, h => W_mono a Γ S _ _ E E' (fun x S1 h1 => W_mono b Γ S1 _ _ E E' (fun y S2 h2 => wCmp_mono hP h2) hE h1) hE h
  | .isN a, Γ, S, P, P', E, E', hP, hE, h => W_mono a Γ S _ _ E E' (fun x S1 h1 => hP _ _ h1) hE h
  | .notN a, Γ, S, P, P', E, E', hP, hE, h => W_mono a Γ S _ _ E E' (fun x S1 h1 => hP _ _ h1) hE h
  | .sortk a q, Γ, S, P, P', E, E', hP, hE, h => W_mono a Γ S _ _ E E' (fun x S1 ⟨i, bs, k1, k2, k3, k4, k5, k6, k7⟩ => ⟨i, bs, k1, k2, k3, k4, k5, k6, hP _ _ k7⟩) hE h
  | .maxd a d, Γ, S, P, P', E, E', hP, hE, h => W_mono a Γ S _ _ E E' (fun x S1 h1 => W_mono d Γ S1 _ _ E E' (fun z S2 ⟨xs, ds, k1, k2, k3, k4, k5, k6⟩ => ⟨xs, ds, k1, k2, k3, k4, fun e => hP _ _ (k5 e), fun y ys i v e a b => hP _ _ (k6 y ys i v e a b)⟩) hE h1) hE h
  | .lrev a, Γ, S, P, P', E, E', hP, hE, h => W_mono a Γ S _ _ E E' (fun x S1 ⟨xs, h1, h2⟩ => ⟨xs, h1, hP _ _ h2⟩) hE h
  | .chain3 op op' op'' a b c d, Γ, S, P, P', E, E', hP, hE, h => W_mono a Γ S _ _ E E' (fun x S1 h1 => W_mono b Γ S1 _ _ E E' (fun y S2 h2 => wCmp_mono (fun z S3 ⟨k, e, h3⟩ => ⟨k, e, by
      cases k with
      | true => exact W_mono c Γ S3 _ _ E E' (fun u S4 h4 => wCmp_mono (fun z S5 ⟨k, e, h5⟩ => ⟨k, e, by
          cases k with
          | true => exact W_mono d Γ S5 _ _ E E' (fun v S6 h6 => wCmp_mono hP h6) hE h5
          | false => exact hP _ _ h5⟩) h4) hE h3
      | false => exact hP _ _ h3⟩) h2) hE h1) hE h
  | .chain op op' a b c, Γ, S, P, P', E, E', hP, hE, h => W_mono a Γ S _ _ E E' (fun x S1 h1 => W_mono b Γ S1 _ _ E E' (fun y S2 h2 => wCmp_mono (fun z S3 ⟨k, e, h3⟩ => ⟨k, e, by
      cases k with
      | true => exact W_mono c Γ S3 _ _ E E' (fun u S4 h4 => wCmp_mono hP h4) hE h3
      | false => exact hP _ _ h3⟩) h2) hE h1) hE h
  | .tst t, Γ, S, P, P', E, E', hP, hE, h => WB_mono t Γ S P P' E E' hP hE h
  | .ite t a b, Γ, S, P, P', E, E', hP, hE, h => WT_mono t Γ S _ _ E E' (fun k S1 h1 => by
      cases k with
      | true => exact W_mono a Γ S1 P P' E E' hP hE h1
      | false => exact W_mono b Γ S1 P P' E E' hP hE h1) hE h
  | .call f es, Γ, S, P, P', E, E', hP, hE, h => WL_mono es Γ S _ _ E E' (fun vs S h1 => hC.run _ _ _ _ _ _ _ hP hE h1) hE h
  | .len a, Γ, S, P, P', E, E', hP, hE, h => W_mono a Γ S _ _ E E' (fun x S1 h1 => wLen_mono hP h1) hE h
  | .abs a, Γ, S, P, P', E, E', hP, hE, h => W_mono a Γ S _ _ E E' (fun x S1 h1 => wAbs_mono hP h1) hE h
  | .isc a x, Γ, S, P, P', E, E', hP, hE, h => W_mono a Γ S _ _ E E' (fun v S1 ⟨k, h1, ob, h2, b, h3, h4⟩ => ⟨k, h1, ob, h2, b, h3, hP _ _ h4⟩) hE h
  | .isE a x, Γ, S, P, P', E, E', hP, hE, h => W_mono a Γ S _ _ E E' (fun v S1 ⟨k, h1, c, h2, b, h3, h4⟩ => ⟨k, h1, c, h2, b, h3, hP _ _ h4⟩) hE h
  | .isEt a x, Γ, S, P, P', E, E', hP, hE, h => W_mono a Γ S _ _ E E' (fun v S1 ⟨k, h1, c, h2, b, h3, h4⟩ => ⟨k, h1, c, h2, b, xkAny_up.trans h3, hP _ _ h4⟩) hE h
  | .isi a t, Γ, S, P, P', E, E', hP, hE, h => W_mono a Γ S _ _ E E' (fun x S1 ⟨b, h1, h2⟩ => ⟨b, h1, hP _ _ h2⟩) hE h
  | .sub a i, Γ, S, P, P', E, E', hP, hE, h => W_mono a Γ S _ _ E E' (fun x S1 h1 => W_mono i Γ S1 _ _ E E' (fun y S2 h2 => wSub_mono hP h2) hE h1) hE h
  | .slice a lo hi, Γ, S, P, P', E, E', hP, hE, h => W_mono a Γ S _ _ E E' (fun x S1 h1 => WOe_mono lo Γ S1 _ _ E E' (fun l S2 h2 => WOe_mono hi Γ S2 _ _ E E' (fun r S3 h3 => wSlice_mono hP h3) hE h2) hE h1) hE h
  | .blt f es, Γ, S, P, P', E, E', hP, hE, h => WL_mono es Γ S _ _ E E' (fun vs S1 h1 => wBlt_mono hP h1) hE h
  | .mth m o es, Γ, S, P, P', E, E', hP, hE, h => W_mono o Γ S _ _ E E' (fun x S1 ⟨h0, h1⟩ => ⟨h0, WL_mono es Γ S1 _ _ E E' (fun vs S2 h2 => wMth_mono hP h2) hE h1⟩) hE h
  | .comp own elt tg it cond, Γ, S, P, P', E, E', hP, hE, h => WI_mono it Γ S _ _ E E' (fun xs G S1 ⟨h0, h1⟩ => ⟨h0, cpL_mono (fun Γ S P P' hp q => WT0_mono cond Γ S P P' hp q) (fun Γ S P P' hp q => W_mono elt Γ S P P' _ _ hp (fun _ _ z => z) q) hP xs _ h1⟩) hE h
  | .fld o f, Γ, S, P, P', E, E', hP, hE, h => W_mono o Γ S _ _ E E' (fun x S1 ⟨k, e, ob, e2, v, e3, h1⟩ => ⟨k, e, ob, e2, v, e3, hP _ _ h1⟩) hE h
  | .mcall o m es, Γ, S, P, P', E, E', hP, hE, h => W_mono o Γ S _ _ E E' (fun x S1 ⟨k, e, ob, e2, v, e3, h1⟩ => ⟨k, e, ob, e2, v, e3, WL_mono es Γ S1 _ _ E E' (fun vs S2 h2 => hC.run _ _ _ _ _ _ _ hP hE h2) hE h1⟩) hE h
  | .make c es, Γ, S, P, P', E, E', hP, hE, ⟨key, e1, h⟩ => ⟨key, e1, WL_mono es Γ S _ _ E E' (fun vs S1 h2 => hC.run _ _ _ _ _ _ _ (fun v S2 ⟨e3, h3⟩ => ⟨e3, hP _ _ h3⟩) hE h2) hE h⟩
  | .make0 c, Γ, S, P, P', E, E', hP, hE, ⟨e1, h⟩ => ⟨e1, hP _ _ h⟩
  | .dsp es, Γ, S, P, P', E, E', hP, hE, h => WL_mono es Γ _ _ _ E E' (fun vs S1 ⟨kvs, e1, e2, e3, h1⟩ => ⟨kvs, e1, e2, e3, hP _ _ h1⟩) hE h
  | .get1 o k, Γ, S, P, P', E, E', hP, hE, h => W_mono o Γ S _ _ E E' (fun x S1 ⟨h0, h1⟩ => ⟨h0, W_mono k Γ S1 _ _ E E' (fun y S2 ⟨kvs, e1, kk, e2, h2⟩ => ⟨kvs, e1, kk, e2, hP _ _ h2⟩) hE h1⟩) hE h
  | .get2 o k d, Γ, S, P, P', E, E', hP, hE, h => W_mono o Γ S _ _ E E' (fun x S1 ⟨h0, h1⟩ => ⟨h0, W_mono k Γ S1 _ _ E E' (fun y S2 h2 => W_mono d Γ S2 _ _ E E' (fun z S3 ⟨kvs, e1, kk, e2, h3⟩ => ⟨kvs, e1, kk, e2, hP _ _ h3⟩) hE h2) hE h1⟩) hE h
  | .gget x k d, Γ, S, P, P', E, E', hP, hE, ⟨l, e, h⟩ => ⟨l, e, W_mono k Γ S _ _ E E' (fun y S1 h1 => W_mono d Γ S1 _ _ E E' (fun z S2 ⟨s, e1, o, e2, h3⟩ => ⟨s, e1, o, e2, hP _ _ h3⟩) hE h1) hE h⟩
  | .dpop1 o k, Γ, S, P, P', E, E', hP, hE, h => W_mono o Γ S _ _ E E' (fun x S1 ⟨h0, h1⟩ => ⟨h0, W_mono k Γ S1 _ _ E E' (fun y S2 ⟨n, e0, kvs, e1, kk, e2, v, e3, h2⟩ => ⟨n, e0, kvs, e1, kk, e2, v, e3, hP _ _ h2⟩) hE h1⟩) hE h
  | .evens a, Γ, S, P, P', E, E', hP, hE, h => W_mono a Γ S _ _ E E' (fun x S1 ⟨xs, h1, h2⟩ => ⟨xs, h1, hP _ _ h2⟩) hE h
  | .callv i es, Γ, S, P, P', E, E', hP, hE, ⟨z, ws, h0, h1, h⟩ => ⟨z, ws, h0, hC.fns _ h1, WL_mono es Γ S _ _ E E' (fun vs S1 h2 => hC.run _ _ _ _ _ _ _ hP hE h2) hE h⟩
  | .callc f es id q js, Γ, S, P, P', E, E', hP, hE, ⟨ws, h0, h⟩ => ⟨ws, h0, WL_mono es Γ S _ _ E E' (fun vs S1 ⟨h1, h2⟩ => ⟨h1, fun z hz => hC.runC _ _ _ _ _ _ _ _ hP hE (h2 z hz)⟩) hE h⟩
  | .fmt a, Γ, S, P, P', E, E', hP, hE, h => W_mono a Γ S _ _ E E' (fun x S1 h1 => wFmt_mono hP h1) hE h
  | .js es, Γ, S, P, P', E, E', hP, hE, h => WJ_mono es Str.empty Γ S P P' E E' hP hE h
  | .callm f es m as, Γ, S, P, P', E, E', hP, hE, ⟨t, h0, h⟩ => ⟨t, h0, WL_mono es Γ S _ _ E E' (fun vs S1 h1 => WL_mono as Γ S1 _ _ E E' (fun us S2 ⟨h2, h3, ws, h4, h5⟩ => ⟨h2, h3, ws, h4, fun z hz => hC.runC _ _ _ _ _ _ _ _ hP hE (h5 z hz)⟩) hE h1) hE h⟩
  | .calld f es, Γ, S, P, P', E, E', hP, hE, ⟨h0, h⟩ => ⟨h0, WL_mono es Γ S _ _ E E' (fun vs S1 h1 => hC.run _ _ _ _ _ _ _ hP hE h1) hE h⟩
  | .callk f es x e, Γ, S, P, P', E, E', hP, hE, ⟨h0, h⟩ => ⟨h0, WL_mono es Γ S _ _ E E' (fun vs S1 h1 => W_mono e Γ S1 _ _ E E' (fun v S2 h2 => hC.run _ _ _ _ _ _ _ hP hE h2) hE h1) hE h⟩
  | .mcallc o m es id q js, Γ, S, P, P', E, E', hP, hE, ⟨ws, h0, h⟩ => ⟨ws, h0, W_mono o Γ S _ _ E E' (fun x S1 ⟨k, e, ob, e2, v, e3, h1⟩ => ⟨k, e, ob, e2, v, e3, WL_mono es Γ S1 _ _ E E' (fun vs S2 ⟨h2, h3⟩ => ⟨h2, fun z hz => hC.runC _ _ _ _ _ _ _ _ hP hE (h3 z hz)⟩) hE h1⟩) hE h⟩
  | .lck e, Γ, S, P, P', E, E', hP, hE, ⟨k, kvs, h1, h⟩ => ⟨k, kvs, h1, W_mono e Γ _ _ _ _ _ (fun v S1 ⟨h2, h3⟩ => ⟨h2, hP _ _ h3⟩) (fun _ _ z => z) h⟩
  | .dpop2 o k d, Γ, S, P, P', E, E', hP, hE, h => W_mono o Γ S _ _ E E' (fun x S1 ⟨h0, h1⟩ => ⟨h0, W_mono k Γ S1 _ _ E E' (fun y S2 h2 => W_mono d Γ S2 _ _ E E' (fun z S3 ⟨n, e0, kvs, e1, kk, e2, h3⟩ => ⟨n, e0, kvs, e1, kk, e2, h3.elim (fun ⟨v, e3, h4⟩ => .inl ⟨v, e3, hP _ _ h4⟩) (fun ⟨e3, h4⟩ => .inr ⟨e3, hP _ _ h4⟩)⟩) hE h2) hE h1⟩) hE h
theorem WOe_mono : ∀ (m : Oe) (Γ : Env) (S : Sto) (P P' : Option Int → Sto → Prop) (E E' : PX), (∀ v S, P v S → P' v S) → (∀ x S, E x S → E' x S) → WOe C m Γ S P E → WOe (C.up r rc fs) m Γ S P' E'
  | .none, Γ, S, P, P', E, E', hP, hE, h => hP _ _ h
  | .some e, Γ, S, P, P', E, E', hP, hE, h => W_mono e Γ S _ _ E E' (fun v S1 ⟨i, e1, h1⟩ => ⟨i, e1, hP _ _ h1⟩) hE h
theorem WI_mono : ∀ (m : It) (Γ : Env) (S : Sto) (P P' : PI_) (E E' : PX), (∀ xs G S, P xs G S → P' xs G S) → (∀ x S, E x S → E' x S) → WI C m Γ S P E → WI (C.up r rc fs) m Γ S P' E'
  | .seq e, Γ, S, P, P', E, E', hP, hE, h => W_mono e Γ S _ _ E E' (fun v S1 h1 => wSeq_mono hP h1) hE h
  | .range1 a, Γ, S, P, P', E, E', hP, hE, h => W_mono a Γ S _ _ E E' (fun v S1 ⟨i, e1, h1, h2, h3⟩ => ⟨i, e1, h1, h2, hP _ _ _ h3⟩) hE h
  | .range2 a b, Γ, S, P, P', E, E', hP, hE, h => W_mono a Γ S _ _ E E' (fun v S1 h1 => W_mono b Γ S1 _ _ E E' (fun u S2 ⟨i, e1, j, e2, h2, h3⟩ => ⟨i, e1, j, e2, h2, hP _ _ _ h3⟩) hE h1) hE h
  | .enum e, Γ, S, P, P', E, E', hP, hE, h => W_mono e Γ S _ _ E E' (fun v S1 h1 => wEn_mono (fun _ _ _ z => hP _ _ _ z) h1) hE h
  | .zip a b, Γ, S, P, P', E, E', hP, hE, h => W_mono a Γ S _ _ E E' (fun v S1 h1 => W_mono b Γ S1 _ _ E E' (fun u S2 h2 => wLst_mono (fun _ _ _ z => wLst_mono (fun _ _ _ z => hP _ _ _ z) z) h2) hE h1) hE h
  | .rev e, Γ, S, P, P', E, E', hP, hE, h => W_mono e Γ S _ _ E E' (fun v S1 h1 => wLst_mono (fun _ _ _ z => hP _ _ _ z) h1) hE h
  | .revr a, Γ, S, P, P', E, E', hP, hE, h => W_mono a Γ S _ _ E E' (fun v S1 ⟨i, e1, h1, h3⟩ => ⟨i, e1, h1, hP _ _ _ h3⟩) hE h
  | .rangeD a b, Γ, S, P, P', E, E', hP, hE, h => W_mono a Γ S _ _ E E' (fun v S1 h1 => W_mono b Γ S1 _ _ E E' (fun u S2 ⟨i, e1, j, e2, h2, h3⟩ => ⟨i, e1, j, e2, h2, hP _ _ _ h3⟩) hE h1) hE h
  | .keys e, Γ, S, P, P', E, E', hP, hE, h => W_mono e Γ S _ _ E E' (fun v S1 ⟨k, h1, kvs, h2, h3⟩ => ⟨k, h1, kvs, h2, hP _ _ _ h3⟩) hE h
  | .items e, Γ, S, P, P', E, E', hP, hE, h => W_mono e Γ S _ _ E E' (fun v S1 ⟨k, h1, kvs, h2, h3⟩ => ⟨k, h1, kvs, h2, hP _ _ _ h3⟩) hE h
theorem WT0_mono : ∀ (m : Tes0) (Γ : Env) (S : Sto) (P P' : Bool → Sto → Prop), (∀ v S, P v S → P' v S) → WT0 C m Γ S P → WT0 (C.up r rc fs) m Γ S P'
  | .none, Γ, S, P, P', hP, h => hP _ _ h
  | .some t, Γ, S, P, P', hP, h => WT_mono t Γ S _ _ _ _ hP (fun _ _ z => z) h
theorem WT_mono : ∀ (m : Te) (Γ : Env) (S : Sto) (P P' : Bool → Sto → Prop) (E E' : PX), (∀ v S, P v S → P' v S) → (∀ x S, E x S → E' x S) → WT C m Γ S P E → WT (C.up r rc fs) m Γ S P' E'
  | .val e, Γ, S, P, P', E, E', hP, hE, h => W_mono e Γ S _ _ E E' (fun v S1 ⟨b, h1, h2⟩ => ⟨b, h1, hP _ _ h2⟩) hE h
  | .not t, Γ, S, P, P', E, E', hP, hE, h => WT_mono t Γ S _ _ E E' (fun v S1 h1 => hP _ _ h1) hE h
  | .and ts, Γ, S, P, P', E, E', hP, hE, h => WA_mono ts Γ S _ _ E E' hP hE h
  | .or ts, Γ, S, P, P', E, E', hP, hE, h => WO_mono ts Γ S _ _ E E' hP hE h
theorem WA_mono : ∀ (m : Tes) (Γ : Env) (S : Sto) (P P' : Bool → Sto → Prop) (E E' : PX), (∀ v S, P v S → P' v S) → (∀ x S, E x S → E' x S) → WA C m Γ S P E → WA (C.up r rc fs) m Γ S P' E'
  | .one t, Γ, S, P, P', E, E', hP, hE, h => WT_mono t Γ S _ _ E E' hP hE h
  | .cons t ts, Γ, S, P, P', E, E', hP, hE, h => WT_mono t Γ S _ _ E E' (fun k S1 h1 => by
      cases k with
      | true => exact WA_mono ts Γ S1 P P' E E' hP hE h1
      | false => exact hP _ _ h1) hE h
theorem WO_mono : ∀ (m : Tes) (Γ : Env) (S : Sto) (P P' : Bool → Sto → Prop) (E E' : PX), (∀ v S, P v S → P' v S) → (∀ x S, E x S → E' x S) → WO C m Γ S P E → WO (C.up r rc fs) m Γ S P' E'
  | .one t, Γ, S, P, P', E, E', hP, hE, h => WT_mono t Γ S _ _ E E' hP hE h
  | .cons t ts, Γ, S, P, P', E, E', hP, hE, h => WT_mono t Γ S _ _ E E' (fun k S1 h1 => by
      cases k with
      | false => exact WO_mono ts Γ S1 P P' E E' hP hE h1
      | true => exact hP _ _ h1) hE h
theorem WB_mono : ∀ (m : Te) (Γ : Env) (S : Sto) (P P' : PV) (E E' : PX), (∀ v S, P v S → P' v S) → (∀ x S, E x S → E' x S) → WB C m Γ S P E → WB (C.up r rc fs) m Γ S P' E'
  | .val e, Γ, S, P, P', E, E', hP, hE, h => W_mono e Γ S _ _ E E' hP hE h
  | .not t, Γ, S, P, P', E, E', hP, hE, h => WB_mono t Γ S _ _ E E' (fun v S1 ⟨b, e, h1⟩ => ⟨b, e, hP _ _ h1⟩) hE h
  | .and ts, Γ, S, P, P', E, E', hP, hE, h => WBA_mono ts Γ S _ _ E E' hP hE h
  | .or ts, Γ, S, P, P', E, E', hP, hE, h => WBO_mono ts Γ S _ _ E E' hP hE h
theorem WBA_mono : ∀ (m : Tes) (Γ : Env) (S : Sto) (P P' : PV) (E E' : PX), (∀ v S, P v S → P' v S) → (∀ x S, E x S → E' x S) → WBA C m Γ S P E → WBA (C.up r rc fs) m Γ S P' E'
  | .one t, Γ, S, P, P', E, E', hP, hE, h => WB_mono t Γ S _ _ E E' hP hE h
  | .cons t ts, Γ, S, P, P', E, E', hP, hE, h => WB_mono t Γ S _ _ E E' (fun k S1 ⟨b, e, h1⟩ => ⟨b, e, by
      cases b with
      | true => exact WBA_mono ts Γ S1 P P' E E' hP hE h1
      | false => exact hP _ _ h1⟩) hE h
theorem WBO_mono : ∀ (m : Tes) (Γ : Env) (S : Sto) (P P' : PV) (E E' : PX), (∀ v S, P v S → P' v S) → (∀ x S, E x S → E' x S) → WBO C m Γ S P E → WBO (C.up r rc fs) m Γ S P' E'
  | .one t, Γ, S, P, P', E, E', hP, hE, h => WB_mono t Γ S _ _ E E' hP hE h
  | .cons t ts, Γ, S, P, P', E, E', hP, hE, h => WB_mono t Γ S _ _ E E' (fun k S1 ⟨b, e, h1⟩ => ⟨b, e, by
      cases b with
      | false => exact WBO_mono ts Γ S1 P P' E E' hP hE h1
      | true => exact hP _ _ h1⟩) hE h
theorem WJ_mono : ∀ (m : Exs) (acc : Str) (Γ : Env) (S : Sto) (P P' : PV) (E E' : PX), (∀ v S, P v S → P' v S) → (∀ x S, E x S → E' x S) → WJ C m acc Γ S P E → WJ (C.up r rc fs) m acc Γ S P' E'
  | .nil, acc, Γ, S, P, P', E, E', hP, hE, h => hP _ _ h
  | .cons e es, acc, Γ, S, P, P', E, E', hP, hE, h => W_mono e Γ S _ _ E E' (fun v S1 ⟨y, h1, h2, h3⟩ => ⟨y, h1, h2, WJ_mono es (acc ++ y) Γ S1 P P' E E' hP hE h3⟩) hE h
theorem WL_mono : ∀ (m : Exs) (Γ : Env) (S : Sto) (P P' : PL) (E E' : PX), (∀ v S, P v S → P' v S) → (∀ x S, E x S → E' x S) → WL C m Γ S P E → WL (C.up r rc fs) m Γ S P' E'
  | .nil, Γ, S, P, P', E, E', hP, hE, h => hP _ _ h
  | .cons e es, Γ, S, P, P', E, E', hP, hE, h => W_mono e Γ S _ _ E E' (fun v S1 h1 => WL_mono es Γ S1 _ _ E E' (fun vs S2 h2 => hP _ _ h2) hE h1) hE h
end

structure DMono (D D' : AEnds) : Prop where
  nx : ∀ Γ S, D.nx Γ S → D'.nx Γ S
  rt : ∀ v S, D.rt v S → D'.rt v S
  bk : ∀ Γ S, D.bk Γ S → D'.bk Γ S
  ct : ∀ Γ S, D.ct Γ S → D'.ct Γ S
  ex : ∀ x Γ S, D.ex x Γ S → D'.ex x Γ S

omit hC in
theorem whN_mono {t t' : Env → Sto → (Bool → Sto → Prop) → Prop} {b b' : PE_ → Env → Sto → Prop} {nx nx' : PE_}
    (ht : ∀ Γ S P P', (∀ k S, P k S → P' k S) → t Γ S P → t' Γ S P') (hb : ∀ Γ S (N N' : PE_), (∀ Γ S, N Γ S → N' Γ S) → b N Γ S → b' N' Γ S) (hn : ∀ Γ S, nx Γ S → nx' Γ S) :
    ∀ n Γ S, whN t b nx n Γ S → whN t' b' nx' n Γ S
  | 0, _, _, h => h.elim
  | n + 1, Γ, S, h => ht Γ S _ _ (fun k S1 h1 => by
      cases k with
      | true => exact hb Γ S1 _ _ (fun Γ2 S2 h2 => whN_mono ht hb hn n Γ2 S2 h2) h1
      | false => exact hn _ _ h1) h
omit hC in
theorem frL_mono {bind : Va → Env → Sto → Option Env} {b b' : PE_ → Env → Sto → Prop} {G : Sto → Prop} {nx nx' : PE_}
    (hb : ∀ Γ S (N N' : PE_), (∀ Γ S, N Γ S → N' Γ S) → b N Γ S → b' N' Γ S) (hn : ∀ Γ S, nx Γ S → nx' Γ S) : ∀ xs Γ S, frL bind b G nx xs Γ S → frL bind b' G nx' xs Γ S
  | [], Γ, S, h => hn _ _ h
  | x :: xs, Γ, S, ⟨Γ1, h1, h2⟩ => ⟨Γ1, h1, hb _ _ _ _ (fun Γ' S' ⟨q1, q2⟩ => ⟨q1, frL_mono hb hn xs Γ' S' q2⟩) h2⟩
end
mutual
theorem WS_mono {C : Orc} {r : Str → List Va → Sto → PV → PX → Prop} {rc : Clo → Str → List Va → Sto → PV → PX → Prop} {fs : List Clo} (hC : OrcUp C r rc fs) : ∀ (m : Sm) (D D' : AEnds) (Γ : Env) (S : Sto), DMono D D' → WS C m D Γ S → WS (C.up r rc fs) m D' Γ S
  | .set i e, D, D', Γ, S, d, h => W_mono hC e Γ S _ _ _ _ (fun v S1 h1 => d.nx _ _ h1) (fun x S1 h1 => d.ex _ _ _ h1) h
  | .ret e, D, D', Γ, S, d, h => W_mono hC e Γ S _ _ _ _ d.rt (fun x S1 h1 => d.ex _ _ _ h1) h
  | .retN, D, D', Γ, S, d, h => d.rt _ _ h
  | .pass, D, D', Γ, S, d, h => d.nx _ _ h
  | .brk, D, D', Γ, S, d, h => d.bk _ _ h
  | .cont, D, D', Γ, S, d, h => d.ct _ _ h
  | .drop e, D, D', Γ, S, d, h => W_mono hC e Γ S _ _ _ _ (fun v S1 h1 => d.nx _ _ h1) (fun x S1 h1 => d.ex _ _ _ h1) h
  | .ite t a b, D, D', Γ, S, d, h => WT_mono hC t Γ S _ _ _ _ (fun k S1 h1 => by
      cases k with
      | true => exact WSs_mono hC a D D' Γ S1 d h1
      | false => exact WSs_mono hC b D D' Γ S1 d h1) (fun x S1 h1 => d.ex _ _ _ h1) h
  | .whil t b, D, D', Γ, S, d, ⟨n, h⟩ => ⟨n, whN_mono (fun Γ S P P' hp q => WT_mono hC t Γ S P P' _ _ hp (fun x S1 h1 => d.ex _ _ _ h1) q)
      (fun Γ S N N' hN q => WSs_mono hC b { D with nx := N, ct := N, bk := D.nx } { D' with nx := N', ct := N', bk := D'.nx } Γ S ⟨hN, d.rt, d.nx, hN, d.ex⟩ q) d.nx n Γ S h⟩
  | .raise x, D, D', Γ, S, d, h => d.ex _ _ _ h
  | .asg tg e, D, D', Γ, S, d, h => W_mono hC e Γ S _ _ _ _ (fun v S1 ⟨Γ1, e1, h1⟩ => ⟨Γ1, e1, d.nx _ _ h1⟩) (fun x S1 h1 => d.ex _ _ _ h1) h
  | .setSub o i e, D, D', Γ, S, d, h => W_mono hC e Γ S _ _ _ _ (fun v S1 h1 => W_mono hC o Γ S1 _ _ _ _ (fun x S2 h2 => W_mono hC i Γ S2 _ _ _ _ (fun y S3 ⟨k, e1, ob, e2, ob', e3, h3⟩ => ⟨k, e1, ob, e2, ob', e3, d.nx _ _ h3⟩) (fun x S1 h1 => d.ex _ _ _ h1) h2) (fun x S1 h1 => d.ex _ _ _ h1) h1) (fun x S1 h1 => d.ex _ _ _ h1) h
  | .aug i op e, D, D', Γ, S, d, ⟨x, hx, h⟩ => ⟨x, hx, W_mono hC e Γ S _ _ _ _ (fun y S1 ⟨n, e1, m, e2, r, h1, h2⟩ => ⟨n, e1, m, e2, r, h1, d.nx _ _ h2⟩) (fun x S1 h1 => d.ex _ _ _ h1) h⟩
  | .setC i own elt tg it cond, D, D', Γ, S, d, h => WI_mono hC it Γ S _ _ _ _ (fun xs G S1 ⟨h0, h1⟩ => ⟨h0, cpL_mono (fun Γ S P P' hp q => WT0_mono hC cond Γ S P P' hp q) (fun Γ S P P' hp q => W_mono hC elt Γ S P P' _ _ hp (fun _ _ z => z) q) (fun v S2 z => d.nx _ _ z) xs _ h1⟩) (fun x S1 h1 => d.ex _ _ _ h1) h
  | .for_ tg it b, D, D', Γ, S, d, h => WI_mono hC it Γ S _ _ _ _ (fun xs G S1 ⟨h0, h1⟩ => ⟨h0, frL_mono (fun Γ S N N' hN q => WSs_mono hC b { D with nx := N, ct := N, bk := D.nx } { D' with nx := N', ct := N', bk := D'.nx } Γ S ⟨hN, d.rt, d.nx, hN, d.ex⟩ q) d.nx xs _ _ h1⟩) (fun x S1 h1 => d.ex _ _ _ h1) h
  | .setFld o f e, D, D', Γ, S, d, h => W_mono hC e Γ S _ _ _ _ (fun v S1 h1 => W_mono hC o Γ S1 _ _ _ _ (fun x S2 ⟨k, e1, ob, e2, ob', e3, h2⟩ => ⟨k, e1, ob, e2, ob', e3, d.nx _ _ h2⟩) (fun x S1 h1 => d.ex _ _ _ h1) h1) (fun x S1 h1 => d.ex _ _ _ h1) h
  | .augFld o f op e, D, D', Γ, S, d, ⟨h0, h⟩ => ⟨h0, W_mono hC o Γ S _ _ _ _ (fun x S1 ⟨k, e1, ob, e2, u, e3, h1⟩ => ⟨k, e1, ob, e2, u, e3, W_mono hC e Γ S1 _ _ _ _ (fun y S2 ⟨n, e4, m, e5, ob2, e6, e7, ob', e8, h2⟩ => ⟨n, e4, m, e5, ob2, e6, e7, ob', e8, d.nx _ _ h2⟩) (fun x S1 h1 => d.ex _ _ _ h1) h1⟩) (fun x S1 h1 => d.ex _ _ _ h1) h⟩
  | .lck s, D, D', Γ, S, d, ⟨k, kvs, h1, h⟩ => ⟨k, kvs, h1, WS_mono hC s (lckD k kvs D) (lckD k kvs D') Γ _ ⟨fun _ _ z => ⟨z.1, d.nx _ _ z.2⟩, fun _ _ z => ⟨z.1, d.rt _ _ z.2⟩, fun _ _ z => ⟨z.1, d.bk _ _ z.2⟩, fun _ _ z => ⟨z.1, d.ct _ _ z.2⟩, fun _ _ _ z => z⟩ h⟩
  | .par i j a b, D, D', Γ, S, d, h => W_mono hC a Γ S _ _ _ _ (fun v S1 h1 => W_mono hC b Γ S1 _ _ _ _ (fun w S2 h2 => d.nx _ _ h2) (fun x S1 h1 => d.ex _ _ _ h1) h1) (fun x S1 h1 => d.ex _ _ _ h1) h
  | .try_ b x o su, D, D', Γ, S, d, h => WSs_mono hC b { D with ex := fun c Γ' S' => ∃ kk, C.xk c x = some kk ∧ if kk = true then ∀ a, WSs { C with cur := some (a, c) } su (offD o D) (onE o a Γ') S' else D.ex c Γ' S' } { D' with ex := fun c Γ' S' => ∃ kk, C.xk c x = some kk ∧ if kk = true then ∀ a, WSs { C.up r rc fs with cur := some (a, c) } su (offD o D') (onE o a Γ') S' else D'.ex c Γ' S' } Γ S ⟨d.nx, d.rt, d.bk, d.ct, fun c Γ' S' ⟨kk, h1, h2⟩ => ⟨kk, h1, by
      cases kk with
      | true => exact fun a => WSs_mono (C := { C with cur := some (a, c) }) (r := r) (rc := rc) (fs := fs) ⟨hC.run, hC.runC, hC.fns⟩ su (offD o D) (offD o D') _ _ ⟨fun _ _ z => d.nx _ _ z, d.rt, fun _ _ z => d.bk _ _ z, fun _ _ z => d.ct _ _ z, fun _ _ _ z => z⟩ (h2 a)
      | false => exact d.ex _ _ _ h2⟩⟩ h
theorem WSs_mono {C : Orc} {r : Str → List Va → Sto → PV → PX → Prop} {rc : Clo → Str → List Va → Sto → PV → PX → Prop} {fs : List Clo} (hC : OrcUp C r rc fs) : ∀ (m : Sms) (D D' : AEnds) (Γ : Env) (S : Sto), DMono D D' → WSs C m D Γ S → WSs (C.up r rc fs) m D' Γ S
  | .nil, D, D', Γ, S, d, h => d.nx _ _ h
  | .cons s ss, D, D', Γ, S, d, h => WS_mono hC s { D with nx := fun Γ S => WSs C ss D Γ S } { D' with nx := fun Γ S => WSs (C.up r rc fs) ss D' Γ S } Γ S ⟨fun Γ1 S1 h1 => WSs_mono hC ss D D' Γ1 S1 d h1, d.rt, d.bk, d.ct, d.ex⟩ h
  | .mkfn _ _ _ _, D, D', Γ, S, d, h => h.elim
  | .defret i o m es id q js, D, D', Γ, S, d, ⟨ht, ws, h0, h⟩ => ⟨ht, ws, h0, W_mono hC o (Γ.set i none) S _ _ _ _ (fun x S1 ⟨k, e, ob, e2, v, e3, h1⟩ => ⟨k, e, ob, e2, v, e3, WL_mono hC es (Γ.set i none) S1 _ _ _ _ (fun vs S2 h3 => fun z hz => hC.runC _ _ _ _ _ _ _ _ d.rt (fun x S1 h1 => d.ex _ _ _ h1) (h3 z hz)) (fun x S1 h1 => d.ex _ _ _ h1) h1⟩) (fun x S1 h1 => d.ex _ _ _ h1) h⟩
end

/-! ### calls -/
section
variable (S : Sto) (n : Nat)
mutual
/-- v' is v, with the store's objects from n on taken as they are for good -/
def Fz : Va → Va → Prop
  | v, .non => v = .non
  | v, .bl b => v = .bl b
  | v, .int i => v = .int i
  | v, .str x => v = .str x
  | v, .tup ys => ∃ xs, v = .tup xs ∧ Fzs xs ys
  | v, .lst ys => ∃ xs, (v = .lst xs ∨ ∃ k, v = .loc k ∧ n ≤ k ∧ S[k]? = some (.lst xs)) ∧ Fzs xs ys
  | v, .dct ys => ∃ xs, (v = .dct xs ∨ ∃ k, v = .loc k ∧ n ≤ k ∧ S[k]? = some (.dct xs)) ∧ Fzk xs ys
  | v, .loc k => v = .loc k ∧ k < n
  | v, .scr ns => v = .scr ns
  | v, .exc a => v = .exc a
  | v, .fnv z ys => ∃ xs, v = .fnv z xs ∧ Fzs xs ys
def Fzs : List Va → List Va → Prop
  | vs, [] => vs = []
  | vs, y :: ys => ∃ x xs, vs = x :: xs ∧ Fz x y ∧ Fzs xs ys
def Fzk : List (Key × Va) → List (Key × Va) → Prop
  | vs, [] => vs = []
  | vs, (k, y) :: ys => ∃ x xs, vs = (k, x) :: xs ∧ Fz x y ∧ Fzk xs ys
end
end
section
variable (n : Nat)
mutual
/-- all places of the store in v are below n -/
def Cl : Va → Prop
  | .tup xs => Cls_ xs
  | .lst xs => Cls_ xs
  | .dct xs => Clk xs
  | .loc k => k < n
  | .non => True
  | .bl _ => True
  | .int _ => True
  | .str _ => True
  | .scr _ => True
  | .exc _ => True
  | .fnv _ xs => Cls_ xs
def Cls_ : List Va → Prop
  | [] => True
  | x :: xs => Cl x ∧ Cls_ xs
def Clk : List (Key × Va) → Prop
  | [] => True
  | (_, x) :: xs => Cl x ∧ Clk xs
end
def Clf : List (Str × Va) → Prop
  | [] => True
  | (_, x) :: xs => Cl n x ∧ Clf xs
def ClO : Ob → Prop
  | .lst xs => Cls_ n xs
  | .dct xs => Clk n xs
  | .ins _ fs => Clf n fs
  | .dead => True
  | .lok xs => Clk n xs
  | .tab _ => True
end
/-- S'': the first objects of S', which don't lean on later ones -/
def Cut (S S' S'' : Sto) : Prop := S'' = S' ∨ (S'' = S'.take S.length ∧ S.length ≤ S'.length ∧ ∀ (i : Nat) (o : Ob), i < S.length → S'[i]? = some o → S[i]? = some o ∨ ClO S.length o)
def Shed (S : Sto) (v : Va) (S' : Sto) (v' : Va) (S'' : Sto) : Prop :=
  (v' = v ∧ S'' = S') ∨ ((S'' = S'.take S.length ∧ S.length ≤ S'.length ∧ ∀ (i : Nat) (o : Ob), i < S.length → S'[i]? = some o → S[i]? = some o ∨ ClO S.length o) ∧ Fz S' S.length v v')

/-- the defs (methods as "C.m"), the classes' methods, fields, makers, the constants -/
structure Tab where
  fns : List (Str × Fn)
  mt : List (Str × Str × Str) := []
  na : List (Str × Str) := []
  it : List (Str × Option Str) := []
  gb : List (Str × Va) := []
  ia : List (Str × Str × Bool) := []
  gd : List (Str × List (Str × Option Va)) := []
  xk : List (Str × Str × Bool) := []
  cl : List Clo := []
  df : List (Str × Str) := []
def Tab.fn (T : Tab) (x : Str) : Option Fn := T.fns.lookup x
instance : CoeFun Tab (fun _ => Str → Option Fn) := ⟨Tab.fn⟩
def Tab.meth (T : Tab) (c m : Str) : Option Str := (T.mt.find? fun p => decide (p.1 = c) && decide (p.2.1 = m)).map (·.2.2)
def Tab.noat (T : Tab) (c f : Str) : Bool := T.na.any fun p => decide (p.1 = c) && decide (p.2 = f)
def Tab.init (T : Tab) (c : Str) : Option (Option Str) := T.it.lookup c
def Tab.dfl (T : Tab) (x : Str) : Option Str := T.df.lookup x
/-- a def that makes a function and gives it back: the function's key, its table, what it captures of the def's arguments, how many these are -/
def Tab.mkf (T : Tab) (f : Str) : Option (Str × Str × List Nat × Nat) := match T.fns.lookup f with
  | some ⟨ps, _, .mkfn _ id q js⟩ => some (id, q, js, ps.length)
  | _ => none
def Tab.glob (T : Tab) (x : Str) : Option Va := T.gb.lookup x
def Tab.isa (T : Tab) (c x : Str) : Option Bool := (T.ia.find? fun p => decide (p.1 = c) && decide (p.2.1 = x)).map (·.2.2)
def Tab.gdct (T : Tab) (x : Str) : Option (List (Str × Option Va)) := T.gd.lookup x
def Tab.xkf (T : Tab) (c x : Str) : Option Bool := (T.xk.find? fun p => decide (p.1 = c) && decide (p.2.1 = x)).map (·.2.2)
def startA (N : List Str) (as : List Va) : Env := as.map some ++ List.replicate (N.length - as.length) none
def fin (S : Sto) (P : PV) : PV := fun v S' => ∃ v' S'', Shed S v S' v' S'' ∧ P v' S''
def finX (S : Sto) (E : PX) : PX := fun x S' => ∃ S'', Cut S S' S'' ∧ E x S''
/-- one function more is known -/
def Tab.add (T : Tab) (z : Clo) : Tab := { T with cl := z :: T.cl }
def call : Tab → Nat → Str → List Va → Sto → PV → PX → Prop
  | _, 0, _, _, _, _, _ => False
  | T, k + 1, f, as, S, P, E => ∃ d, T.fn f = some d ∧ as.length = d.ps.length ∧
      WSs ⟨call T k, T.meth, T.noat, T.init, T.glob, T.isa, T.gdct, T.xkf, none, T.cl, fun z => call (T.add z) k, T.dfl, T.mkf⟩ d.body { nx := fun _ S' => fin S P .non S', rt := fin S P, ex := fun x _ S' => finX S E x S' } (startA d.N as) S
def orc (T : Tab) (k : Nat) : Orc := ⟨call T k, T.meth, T.noat, T.init, T.glob, T.isa, T.gdct, T.xkf, none, T.cl, fun z => call (T.add z) k, T.dfl, T.mkf⟩
def orcE (T : Tab) (k : Nat) (cur : Option (PySem.Addr × Str)) : Orc := ⟨call T k, T.meth, T.noat, T.init, T.glob, T.isa, T.gdct, T.xkf, cur, T.cl, fun z => call (T.add z) k, T.dfl, T.mkf⟩
theorem fin_up {S : Sto} {P P' : PV} (hP : ∀ v S, P v S → P' v S) : ∀ v S', fin S P v S' → fin S P' v S' := fun v S' ⟨v', S'', q, p⟩ => ⟨v', S'', q, hP _ _ p⟩
theorem finX_up {S : Sto} {E E' : PX} (hE : ∀ v S, E v S → E' v S) : ∀ v S', finX S E v S' → finX S E' v S' := fun v S' ⟨S'', q, p⟩ => ⟨S'', q, hE _ _ p⟩
/-- with more functions known, and weaker ends -/
theorem call_up : ∀ (k : Nat) (T : Tab) (fs : List Clo), (∀ z ∈ T.cl, z ∈ fs) → ∀ f vs S P P' E E', (∀ v S, P v S → P' v S) → (∀ x S, E x S → E' x S) → call T k f vs S P E → call { T with cl := fs } k f vs S P' E'
  | 0, _, _, _, _, _, _, _, _, _, _, _, _, h => h.elim
  | k + 1, T, fs, hs, f, vs, S, P, P', E, E', hP, hE, ⟨d, h1, h2, h⟩ => by
    refine ⟨d, h1, h2, ?_⟩
    have U : OrcUp (orc T k) (call { T with cl := fs } k) (fun z => call ({ T with cl := fs }.add z) k) fs := ⟨fun f vs S P P' E E' => call_up k T fs hs f vs S P P' E E', fun z f vs S P P' E E' => call_up k (T.add z) (z :: fs) (fun y hy => by
      rcases List.mem_cons.mp hy with e | hy
      · rw [e]; exact List.mem_cons_self
      · exact List.mem_cons_of_mem _ (hs y hy)) f vs S P P' E E', hs⟩
    exact WSs_mono U d.body { nx := fun _ S' => fin S P .non S', rt := fin S P, ex := fun x _ S' => finX S E x S' } { nx := fun _ S' => fin S P' .non S', rt := fin S P', ex := fun x _ S' => finX S E' x S' } _ _ ⟨fun _ _ q => fin_up hP _ _ q, fin_up hP, fun _ _ q => q, fun _ _ q => q, fun x _ S' q => finX_up hE _ _ q⟩ h
theorem call_add {T : Tab} {k : Nat} {z : Clo} {f : Str} {vs : List Va} {S : Sto} {P : PV} {E : PX} (h : call T k f vs S P E) : call (T.add z) k f vs S P E := call_up k T (z :: T.cl) (fun y hy => List.mem_cons_of_mem _ hy) f vs S P P E E (fun _ _ q => q) (fun _ _ q => q) h
theorem call_mono (T : Tab) (k : Nat) : OrcMono (orc T k) := ⟨call_up k T T.cl (fun _ h => h), fun z => call_up k (T.add z) (T.add z).cl (fun _ h => h), fun _ h => h⟩
theorem orcE_mono (T : Tab) (k : Nat) (cur : Option (PySem.Addr × Str)) : OrcMono (orcE T k cur) := ⟨(call_mono T k).run, (call_mono T k).runC, fun _ h => h⟩
end AM
end

section
set_option linter.all false
set_option maxRecDepth 100000
set_option maxHeartbeats 4000000
/-! AM, fourth part: the syntax held against the program's text. -/
namespace AM
open PySem L2

def visB (sc : Scope) (x : Str) : Bool := (match sc.names.lookup x with
  | some .local => true | some .cell => true | some .free => true | _ => false) && !(x == ("__debug__" : Str)) && !(x == ("__classdict__" : Str))
def locB (sc : Scope) (x : Str) : Bool := match sc.names.lookup x with
  | some .local => true | some .cell => true | _ => false
def glB (sc : Scope) (x : Str) : Bool := (match sc.names.lookup x with
  | some .globalImplicit => true | _ => false) && !(x == ("__debug__" : Str)) && !(x == ("__name__" : Str))

def bopB : Bop → Operator → Bool
  | .add, .Add => true | .sub, .Sub => true | .mul, .Mult => true | .fdiv, .FloorDiv => true | .mod, .Mod => true | .pow, .Pow => true
  | _, _ => false
def copB : Cop → CmpOp → Bool
  | .eq, .Eq => true | .ne, .NotEq => true | .lt, .Lt => true | .le, .LtE => true | .gt, .Gt => true | .ge, .GtE => true
  | .isin, .In => true | .notin, .NotIn => true | .isb, .Is => true | .nisb, .IsNot => true | .eqd, .Eq => true | .ned, .NotEq => true
  | _, _ => false
def tyN : Ty → Str
  | .int => "int" | .bool => "bool" | .str => "str" | .tuple => "tuple" | .list => "list" | .dict => "dict"
def tyS : Ty → String
  | .int => "int" | .bool => "bool" | .str => "str" | .tuple => "tuple" | .list => "list" | .dict => "dict"

/-- a test of no form of its own -/
def plainT : Expr → Bool
  | .UnaryOp .Not _ _ => false | .BoolOp _ _ _ => false | .IfExp _ _ _ _ => false | .Compare _ _ _ _ => false
  | _ => true
/-- a comparison -/
def isCmp : Ex → Bool
  | .cmp _ _ _ => true | .isN _ => true | .notN _ => true | .chain _ _ _ _ _ => true | .chain3 _ _ _ _ _ _ _ => true
  | _ => false
def noStar : Expr → Bool
  | .Starred _ _ => false
  | _ => true
def noSet : Expr → Bool
  | .Set _ _ _ => false
  | _ => true
def noSlice : Expr → Bool
  | .Slice _ _ _ _ => false
  | _ => true

def noTup : Expr → Bool
  | .Tuple _ _ _ => false
  | _ => true
/-- a base of an attribute that is not super() -/
def plainB : Expr → Bool
  | .Name _ _ => true | .Attribute _ _ _ => true | .Subscript _ _ _ => true | .Constant _ _ _ => true | .Call _ (_ :: _) _ _ => true | .Dict _ _ _ => true
  | _ => false
def bfN : Bf → Str
  | .list => "list" | .tuple => "tuple" | .sum => "sum" | .max1 => "max" | .min1 => "min" | .max2 => "max" | .min2 => "min" | .sorted => "sorted" | .ord => "ord" | .str => "str" | .int => "int" | .all => "all" | .any => "any" | .dict => "dict" | .maxT => "max"
def mfN : Mf → Str
  | .append => "append" | .pop => "pop" | .extend => "extend" | .insert => "insert" | .join => "join" | .index => "index" | .clear => "clear" | .remove => "remove" | .upper => "upper" | .partition => "partition" | .split => "split" | .endswith => "endswith" | .find => "find" | .count => "count"
def bfA : Bf → Nat
  | .max2 => 2 | .min2 => 2 | _ => 1
def mfA : Mf → Nat
  | .append => 1 | .pop => 0 | .extend => 1 | .insert => 2 | .join => 1 | .index => 1 | .clear => 0 | .remove => 1 | .upper => 0 | .partition => 1 | .split => 1 | .endswith => 1 | .find => 1 | .count => 1

structure Ctx where
  N : List Str
  sc : Scope
  xs : List Str
  fs : List Str
  lc : Str → Bool
  hot : Bool := false
  lm : List (Str × Str) := []
  nd : Str → Arguments → FuncBody → Scope → List Str → Bool := fun _ _ _ _ _ => false
/-- parameters without more: none, one, two -/
def plainA : Arguments → Option (List Str)
  | ⟨[], [], none, [], [], none, []⟩ => some []
  | ⟨[], [⟨a, none, _⟩], none, [], [], none, []⟩ => some [a]
  | ⟨[], [⟨a, none, _⟩, ⟨b, none, _⟩], none, [], [], none, []⟩ => if a = b then none else some [a, b]
  | _ => none
/-- a function made here: of the key id, by what it captures -/
def ckLam (c : Ctx) (id : Str) (js : List Nat) (params : Arguments) (bd : FuncBody) (scope : Scope) : Bool :=
  js.all (fun j => (c.N[j]?).isSome) && NdefX.ndefB c.sc scope (js.map fun j => c.N.getD j "") && (plainA params).isSome && c.nd id params bd scope (js.map fun j => c.N.getD j "")
/-- a lambda of the one parameter z, without names more -/
def lam1B (z : Str) (params : Arguments) (sc : Scope) : Bool := (match params with
  | ⟨[], [⟨a, none, _⟩], none, [], [], none, []⟩ => decide (a = z)
  | _ => false) && decide (sc.kind = .function) && !sc.isCoroutine && !sc.isGenerator && decide (sc.names = [(z, .local)]) && !(z == ("__debug__" : Str))
/-- within a comprehension -/
def Ctx.inn (c : Ctx) (scope : Scope) : Ctx := ⟨c.N, relS scope c.sc, c.xs, c.fs, locB scope, c.hot, [], fun _ _ _ _ _ => false⟩
def ownA (N : List Str) (own : List Nat) : List (Str × Nat) := own.map fun i => (N.getD i "", i)
mutual
def ckG (c : Ctx) : Tg → Expr → Bool
  | .name i, e => (match e with
    | .Name x _ => decide (c.N[i]? = some x) && c.lc x
    | _ => false)
  | .tup ts, e => (match e with
    | .Tuple es _ _ => ckGs c ts es
    | _ => false)
def ckGs (c : Ctx) : Tgs → List Expr → Bool
  | .nil, es => (match es with
    | [] => true
    | _ => false)
  | .cons t ts, es => (match es with
    | e :: r => ckG c t e && noStar e && ckGs c ts r
    | _ => false)
end

/-- names of classes -/
def ckNm (c : Ctx) : List Str → List Expr → Bool
  | [], es => (match es with
    | [] => true
    | _ => false)
  | z :: zs, es => (match es with
    | .Name y _ :: r => decide (y = z) && glB c.sc y && ckNm c zs r
    | _ => false)
def nilX : Exs → Bool
  | .nil => true
  | .cons _ _ => false
mutual
def ckE (c : Ctx) : Ex → Expr → Bool
  | .var i, e => (match e with
    | .Name x _ => decide (c.N[i]? = some x) && visB c.sc x
    | _ => false)
  | .int i, e => (match e with
    | .Constant (.int j) _ _ => decide (i = j)
    | _ => false)
  | .bl b, e => (match e with
    | .Constant (.bool j) _ _ => decide (b = j)
    | _ => false)
  | .non, e => (match e with
    | .Constant .none _ _ => true
    | _ => false)
  | .str x, e => (match e with
    | .Constant (.str y) _ _ => decide (x = y)
    | _ => false)
  | .glob x, e => (match e with
    | .Name y _ => decide (y = x) && glB c.sc y
    | _ => false)
  | .tup es, e => (match e with
    | .Tuple es' _ _ => ckL c es es'
    | _ => false)
  | .lst es, e => (match e with
    | .List es' _ => ckL c es es'
    | _ => false)
  | .bin op a b, e => (match e with
    | .BinOp a' op' b' _ => bopB op op' && ckE c a a' && ckE c b b'
    | _ => false)
  | .neg a, e => (match e with
    | .UnaryOp .USub a' _ => ckE c a a'
    | _ => false)
  | .cmp op a b, e => (match e with
    | .Compare a' [op'] [b'] _ => copB op op' && ckE c a a' && ckE c b b' && noSet b'
    | _ => false)
  | .isN a, e => (match e with
    | .Compare a' [.Is] [.Constant .none _ _] _ => ckE c a a'
    | _ => false)
  | .notN a, e => (match e with
    | .Compare a' [.IsNot] [.Constant .none _ _] _ => ckE c a a'
    | _ => false)
  | .chain op op' a b d, e => (match e with
    | .Compare a' [o1, o2] [b', d'] _ => copB op o1 && copB op' o2 && ckE c a a' && ckE c b b' && ckE c d d' && noSet d'
    | _ => false)
  | .chain3 op op' op'' a b d f, e => (match e with
    | .Compare a' [o1, o2, o3] [b', d', f'] _ => copB op o1 && copB op' o2 && copB op'' o3 && ckE c a a' && ckE c b b' && ckE c d d' && ckE c f f' && noSet f'
    | _ => false)
  | .tst t, e => ckT c t e
  | .ite t a b, e => (match e with
    | .IfExp t' a' b' _ => ckT c t t' && ckE c a a' && ckE c b b'
    | _ => false)
  | .call f es, e => (match e with
    | .Call (.Name x _) (e1 :: es') [] _ => decide (x = f) && glB c.sc x && ckL c es (e1 :: es') && c.fs.contains f && !c.hot
    | .Call (.Name x _) [] [] _ => decide (x = f) && glB c.sc x && nilX es && c.fs.contains f && !c.hot
    | _ => false)
  | .len a, e => (match e with
    | .Call (.Name x _) [a'] [] _ => decide (x = "len") && glB c.sc x && ckE c a a' && noStar a'
    | _ => false)
  | .abs a, e => (match e with
    | .Call (.Name x _) [a'] [] _ => decide (x = "abs") && glB c.sc x && ckE c a a' && noStar a'
    | _ => false)
  | .maxd a d, e => (match e with
    | .Call (.Name x _) [a'] [⟨some y, d', _⟩] _ => decide (x = "max") && glB c.sc x && decide (y = "default") && ckE c a a' && ckE c d d' && noStar a' && !c.hot
    | _ => false)
  | .sortk a q, e => (match e with
    | .Call (.Name x _) [a'] [⟨some y, .Lambda params (.Subscript (.Name z _) (.Constant (.int n) _ _) _) sc _, _⟩, ⟨some y2, .Constant (.bool b) _ _, _⟩] _ => decide (x = "sorted") && glB c.sc x && decide (y = "key") && decide (y2 = "reverse") && b && decide (n = 0) && lam1B z params sc && ckE c a a' && noStar a' && c.lm.contains ("<lambda>", q) && !c.hot
    | _ => false)
  | .lrev a, e => (match e with
    | .Call (.Name x _) [.Call (.Name y _) [a'] [] _] [] _ => decide (x = "list") && glB c.sc x && decide (y = "reversed") && glB c.sc y && ckE c a a' && noStar a' && !c.hot
    | _ => false)
  | .isi a t, e => (match e with
    | .Call (.Name x _) [a', .Name y _] [] _ => decide (x = "isinstance") && glB c.sc x && decide (y = tyN t) && glB c.sc y && ckE c a a' && noStar a'
    | _ => false)
  | .isc a z, e => (match e with
    | .Call (.Name x _) [a', .Name y _] [] _ => decide (x = "isinstance") && glB c.sc x && decide (y = z) && glB c.sc y && ckE c a a' && noStar a'
    | _ => false)
  | .isE a z, e => (match e with
    | .Call (.Name x _) [a', .Name y _] [] _ => decide (x = "isinstance") && glB c.sc x && decide (y = z) && glB c.sc y && ckE c a a' && noStar a'
    | _ => false)
  | .isEt a zs, e => (match e with
    | .Call (.Name x _) [a', .Tuple es _ _] [] _ => decide (x = "isinstance") && glB c.sc x && ckNm c zs es && (decide (zs.length ≤ 1000) && decide (zs ≠ [])) && ckE c a a' && noStar a'
    | _ => false)
  | .sub a i, e => (match e with
    | .Subscript a' i' _ => ckE c a a' && ckE c i i' && noSlice i'
    | _ => false)
  | .slice a lo hi, e => (match e with
    | .Subscript a' (.Slice lo' hi' none _) _ => ckE c a a' && ckO c lo lo' && ckO c hi hi'
    | _ => false)
  | .blt f es, e => (match e with
    | .Call (.Name x _) (e1 :: es') [] _ => decide (x = bfN f) && glB c.sc x && ckL c es (e1 :: es') && decide (es'.length + 1 = bfA f) && !c.hot
    | _ => false)
  | .mth m o es, e => (match e with
    | .Call (.Attribute o' nm apos) es' [] cpos => decide (nm = mfN m) && ckE c o o' && ckL c es es' && (apos.endLine == cpos.line) && plainB o' && decide (es'.length = mfA m)
    | _ => false)
  | .comp own elt tg it cond, e => (match e with
    | .ListComp elt' [⟨tg', it', ifs, 0⟩] scope _ => !c.hot && blkC c.N c.sc scope (ownA c.N own) && ckI c it tg' it' && ckG (c.inn scope) tg tg' && (tgS tg).all own.contains && ckT0 (c.inn scope) cond ifs && ckE (c.inn scope) elt elt'
    | _ => false)
  | .fld o f, e => (match e with
    | .Attribute o' nm _ => decide (nm = f) && ckE c o o' && plainB o'
    | _ => false)
  | .mcall o m es, e => (match e with
    | .Call (.Attribute o' nm apos) es' [] cpos => decide (nm = m) && ckE c o o' && ckL c es es' && plainB o' && (apos.endLine == cpos.line) && decide (es'.length < 28) && !c.hot
    | _ => false)
  | .make x es, e => (match e with
    | .Call (.Name y _) es' [] _ => decide (y = x) && glB c.sc y && ckL c es es' && !c.hot
    | _ => false)
  | .make0 x, e => (match e with
    | .Call (.Name y _) [] [] _ => decide (y = x) && glB c.sc y && !c.hot
    | _ => false)
  | .dsp es, e => (match e with
    | .Dict ks vs _ => ckP c es ks vs && decide (ks.length ≤ 15)
    | _ => false)
  | .get1 o k, e => (match e with
    | .Call (.Attribute o' nm apos) [k'] [] cpos => decide (nm = "get") && ckE c o o' && ckE c k k' && (apos.endLine == cpos.line) && plainB o' && noStar k'
    | _ => false)
  | .get2 o k d, e => (match e with
    | .Call (.Attribute o' nm apos) [k', d'] [] cpos => decide (nm = "get") && ckE c o o' && ckE c k k' && (apos.endLine == cpos.line) && plainB o' && noStar k' && ckE c d d' && noStar d'
    | _ => false)
  | .gget x k d, e => (match e with
    | .Call (.Attribute (.Name y p) nm apos) [k', d'] [] cpos => decide (nm = "get") && decide (y = x) && glB c.sc y && ckE c k k' && (apos.endLine == cpos.line) && plainB (.Name y p) && noStar k' && ckE c d d' && noStar d'
    | _ => false)
  | .dpop1 o k, e => (match e with
    | .Call (.Attribute o' nm apos) [k'] [] cpos => decide (nm = "pop") && ckE c o o' && ckE c k k' && (apos.endLine == cpos.line) && plainB o' && noStar k'
    | _ => false)
  | .dpop2 o k d, e => (match e with
    | .Call (.Attribute o' nm apos) [k', d'] [] cpos => decide (nm = "pop") && ckE c o o' && ckE c k k' && (apos.endLine == cpos.line) && plainB o' && noStar k' && ckE c d d' && noStar d'
    | _ => false)
  | .evens a, e => (match e with
    | .Subscript a' (.Slice none none (some (.Constant (.int j) _ _)) _) _ => ckE c a a' && decide (j = 2)
    | _ => false)
  | .callv i es, e => (match e with
    | .Call (.Name x _) es' [] _ => decide (c.N[i]? = some x) && visB c.sc x && ckL c es es' && !c.hot
    | _ => false)
  | .callc f es id q js, e => (match e with
    | .Call (.Name x _) es' [] _ => decide (x = f) && glB c.sc x && ckLc c id js es es' && c.fs.contains f && !c.hot && c.lm.contains ("<lambda>", q)
    | _ => false)
  | .mcallc o m es id q js, e => (match e with
    | .Call (.Attribute o' nm apos) es' [] cpos => decide (nm = m) && ckE c o o' && ckLc c id js es es' && plainB o' && (apos.endLine == cpos.line) && decide (es'.length < 28) && !c.hot && c.lm.contains ("<lambda>", q)
    | _ => false)
  | .calld f es, e => (match e with
    | .Call (.Name x _) es' [] _ => decide (x = f) && glB c.sc x && ckL c es es' && (match es' with | [] => false | e1 :: _ => noStar e1) && !c.hot
    | _ => false)
  | .callk f es y k, e => (match e with
    | .Call (.Name x _) es' [⟨some z, k', _⟩] _ => decide (x = f) && decide (z = y) && glB c.sc x && ckL c es es' && ckE c k k' && (match es' with | [] => false | e1 :: _ => noStar e1) && !c.hot
    | _ => false)
  | .callm f es m as, e => (match e with
    | .Call (.Name x _) es' [] _ => decide (x = f) && glB c.sc x && ckL c es es'.dropLast && c.fs.contains f && c.fs.contains m && !c.hot && (match es'.getLast? with
      | some (.Call (.Name y _) as' [] _) => decide (y = m) && glB c.sc y && ckL c as as' && !as'.isEmpty
      | _ => false)
    | _ => false)
  | .fmt a, e => (match e with
    | .FormattedValue a' k none _ => ckE c a a' && decide (k = -1)
    | .JoinedStr [.FormattedValue a' k none _] _ => ckE c a a' && decide (k = -1)
    | _ => false)
  | .js es, e => (match e with
    | .JoinedStr (e1 :: e2 :: r) _ => ckL c es (e1 :: e2 :: r)
    | _ => false)
  | .lck m, e => ckE c m e
def ckLc (c : Ctx) (id : Str) (js : List Nat) : Exs → List Expr → Bool
  | .nil, es => (match es with
    | [.Lambda params body scope _] => ckLam c id js params (.expr body) scope
    | _ => false)
  | .cons m ms, es => (match es with
    | e :: r => ckE c m e && noStar e && ckLc c id js ms r
    | _ => false)
def ckP (c : Ctx) : Exs → List (Option Expr) → List Expr → Bool
  | .nil, ks, vs => (match ks, vs with
    | [], [] => true
    | _, _ => false)
  | .cons k r, ks, vs => (match r, ks, vs with
    | .cons v r, some k' :: ks, v' :: vs => ckE c k k' && ckE c v v' && ckP c r ks vs
    | _, _, _ => false)
def ckO (c : Ctx) : Oe → Option Expr → Bool
  | .none, e => (match e with
    | none => true
    | _ => false)
  | .some m, e => (match e with
    | some e => ckE c m e
    | _ => false)
def ckI (c : Ctx) : It → Expr → Expr → Bool
  | .seq m, _, e => ckE c m e && noSet e
  | .range1 m, _, e => (match e with
    | .Call (.Name x _) [a] [] _ => decide (x = "range") && glB c.sc x && ckE c m a && noStar a
    | _ => false)
  | .range2 m n, _, e => (match e with
    | .Call (.Name x _) [a, b] [] _ => decide (x = "range") && glB c.sc x && ckE c m a && noStar a && ckE c n b && noStar b
    | _ => false)
  | .enum m, tg, e => (match tg, e with
    | .Tuple _ _ _, .Call (.Name x _) [a] [] _ => decide (x = "enumerate") && glB c.sc x && ckE c m a && noStar a
    | _, _ => false)
  | .zip m n, tg, e => (match tg, e with
    | .Tuple _ _ _, .Call (.Name x _) [a, b] [] _ => decide (x = "zip") && glB c.sc x && ckE c m a && noStar a && ckE c n b && noStar b
    | _, _ => false)
  | .rev m, _, e => (match e with
    | .Call (.Name x _) [a] [] _ => decide (x = "reversed") && glB c.sc x && ckE c m a && noStar a
    | _ => false)
  | .revr m, _, e => (match e with
    | .Call (.Name x _) [.Call (.Name y _) [a] [] _] [] _ => decide (x = "reversed") && glB c.sc x && decide (y = "range") && glB c.sc y && ckE c m a && noStar a
    | _ => false)
  | .rangeD m n, _, e => (match e with
    | .Call (.Name x _) [a, b, .UnaryOp .USub (.Constant (.int j) _ _) _] [] _ => decide (x = "range") && glB c.sc x && ckE c m a && noStar a && ckE c n b && noStar b && decide (j = 1)
    | _ => false)
  | .keys m, _, e => ckE c m e && noSet e
  | .items m, tg, e => (match tg, e with
    | .Tuple _ _ _, .Call (.Attribute o' nm apos) [] [] cpos => decide (nm = "items") && ckE c m o' && (apos.endLine == cpos.line) && plainB o'
    | _, _ => false)
def ckT0 (c : Ctx) : Tes0 → List Expr → Bool
  | .none, es => (match es with
    | [] => true
    | _ => false)
  | .some t, es => (match es with
    | [e] => ckT c t e
    | _ => false)
def ckT (c : Ctx) : Te → Expr → Bool
  | .val m, e => ckE c m e && (plainT e || isCmp m)
  | .not t, e => (match e with
    | .UnaryOp .Not a _ => ckT c t a
    | _ => false)
  | .and ts, e => (match e with
    | .BoolOp .And es _ => ckTs c ts es
    | _ => false)
  | .or ts, e => (match e with
    | .BoolOp .Or es _ => ckTs c ts es
    | _ => false)
def ckTs (c : Ctx) : Tes → List Expr → Bool
  | .one t, es => (match es with
    | [e] => ckT c t e
    | _ => false)
  | .cons t ts, es => (match es with
    | e :: e2 :: r => ckT c t e && ckTs c ts (e2 :: r)
    | _ => false)
def ckL (c : Ctx) : Exs → List Expr → Bool
  | .nil, es => (match es with
    | [] => true
    | _ => false)
  | .cons m ms, es => (match es with
    | e :: r => ckE c m e && noStar e && ckL c ms r
    | _ => false)
end

/-- a value that no comprehension gives -/
def noComp : Expr → Bool
  | .ListComp _ _ _ _ => false | .SetComp _ _ _ _ => false | .DictComp _ _ _ _ _ => false
  | _ => true

/-- a comprehension's list is put in no other way than a value is -/
def noSwap (sc : Scope) (x : Str) (p : Pos) : Expr → Bool
  | .ListComp _ _ scope pos => !(decide (sc.names.lookup x = some .local) && (p.line == pos.line) && !(scope.names.any fun (n, k) => n == x && (k == .local || k == .cell)))
  | e => noComp e
/-- .. but in another -/
def yesSwap (sc : Scope) (x : Str) (p : Pos) : Expr → Bool
  | .ListComp _ _ scope pos => decide (sc.names.lookup x = some .local) && (p.line == pos.line) && !(scope.names.any fun (n, k) => n == x && (k == .local || k == .cell))
  | _ => false

/-- an except clause's name -/
def ckNmO (c : Ctx) (o : Option Nat) (nm : Option Str) : Bool := match o, nm with
  | none, none => true
  | some i, some n => decide (c.N[i]? = some n) && decide (c.sc.names.lookup n = some .local)
  | _, _ => false
/-- written arguments, the name x last -/
def ckLd (c : Ctx) (x : Str) : Exs → List Expr → Bool
  | .nil, es => (match es with
    | [.Name y _] => decide (y = x)
    | _ => false)
  | .cons m ms, es => (match es with
    | e :: r => ckE c m e && noStar e && ckLd c x ms r
    | _ => false)
mutual
def ckS (c : Ctx) : Sm → Stmt → Bool
  | .set i m, s => (match s with
    | .Assign [.Name x p] e _ => decide (c.N[i]? = some x) && c.lc x && ckE c m e && noSwap c.sc x p e
    | _ => false)
  | .asg tg m, s => (match s with
    | .Assign [.Tuple es k p] e _ => ckG c tg (.Tuple es k p) && ckE c m e && noComp e && noTup e && !c.hot
    | _ => false)
  | .setSub o i m, s => (match s with
    | .Assign [.Subscript o' i' _] e _ => ckE c o o' && ckE c i i' && ckE c m e && noSlice i'
    | _ => false)
  | .aug i op m, s => (match s with
    | .AugAssign (.Name x _) op' e _ => decide (c.N[i]? = some x) && c.lc x && (bopB op op' && (decide (op = .add) || decide (op = .sub))) && ckE c m e
    | _ => false)
  | .setC i own elt tg it cond, s => (match s with
    | .Assign [.Name x p] (.ListComp elt' [⟨tg', it', ifs, 0⟩] scope pos) _ => !c.hot && decide (c.N[i]? = some x) && yesSwap c.sc x p (.ListComp elt' [⟨tg', it', ifs, 0⟩] scope pos) &&
        (blkC c.N c.sc scope (ownA c.N own) && ckI c it tg' it' && ckG (c.inn scope) tg tg' && (tgS tg).all own.contains && ckT0 (c.inn scope) cond ifs && ckE (c.inn scope) elt elt')
    | _ => false)
  | .for_ tg it b, s => (match s with
    | .For tg' it' bd [] _ => ckI c it tg' it' && ckG c tg tg' && ckSs c b bd && !c.hot
    | _ => false)
  | .ret m, s => (match s with
    | .Return (some e) _ => ckE c m e
    | _ => false)
  | .retN, s => (match s with
    | .Return none _ => true
    | _ => false)
  | .pass, s => (match s with
    | .Pass _ => true
    | .Expr (.Constant (.str _) _ _) _ => true
    | _ => false)
  | .brk, s => (match s with
    | .Break _ => true
    | _ => false)
  | .cont, s => (match s with
    | .Continue _ => true
    | _ => false)
  | .drop m, s => (match s with
    | .Expr e _ => ckE c m e && noComp e
    | _ => false)
  | .ite t a b, s => (match s with
    | .If e x y _ => ckT c t e && ckSs c a x && ckSs c b y
    | _ => false)
  | .whil t b, s => (match s with
    | .While e x [] _ => ckT c t e && ckSs c b x && !c.hot
    | _ => false)
  | .raise x, s => (match s with
    | .Raise (some (.Call (.Name y _) [.Constant (.str _) _ _] [] _)) none _ => decide (y = x) && glB c.sc y && c.xs.contains x && !c.hot
    | _ => false)
  | .setFld o f m, s => (match s with
    | .Assign [.Attribute o' nm _] e _ => decide (nm = f) && ckE c o o' && ckE c m e
    | _ => false)
  | .augFld o f op m, s => (match s with
    | .AugAssign (.Attribute o' nm _) op' e _ => decide (nm = f) && bopB op op' && ckE c o o' && ckE c m e
    | _ => false)
  | .lck m, s => ckS c m s
  | .par i j a b, st => (match st with
    | .Assign [.Tuple [.Name x px, .Name y py] _ _] (.Tuple [.Name z pz, b'] _ _) _ => decide (c.N[i]? = some x) && decide (c.N[j]? = some y) && decide (i ≠ j) && decide (x ≠ y) && decide (c.sc.names.lookup x = some .local) && decide (c.sc.names.lookup y = some .local) && (py.line == px.line) && ckE c a (.Name z pz) && ckE c b b' && noStar b' && !(z == ("__debug__" : Str)) && !c.hot
    | _ => false)
  | .try_ b x o su, s => (match s with
    | .Try bd [.ExceptHandler (some (.Name y _)) nm (s0 :: ss) _] [] [] _ => decide (y = x) && glB c.sc y && ckSs c b bd && ckSs { c with hot := true } su (s0 :: ss) && ckNmO c o nm && !c.hot
    | _ => false)
def ckSs (c : Ctx) : Sms → List Stmt → Bool
  | .nil, ss => (match ss with
    | [] => true
    | _ => false)
  | .cons m ms, ss => (match ss with
    | s :: r => ckS c m s && ckSs c ms r
    | _ => false)
  | .mkfn i id q js, ss => (match ss with
    | [.FunctionDef name params body [] none [] scope none name2 _, .Return (some (.Name name3 _)) _] => decide (name2 = name) && decide (name3 = name) && decide (c.N[i]? = some name) && c.lc name && visB c.sc name && ckLam c id js params (.stmts body) scope && c.lm.contains (name, q) && js.all (fun j => decide (j ≠ i))
    | _ => false)
  | .defret i o m es id q js, ss => (match ss with
    | [.FunctionDef name params body [] none [] scope none name2 _, .Return (some (.Call (.Attribute o' nm apos) es' [] cpos)) _] => decide (name2 = name) && decide (c.N[i]? = some name) && c.lc name && visB c.sc name && ckLam c id js params (.stmts body) scope && c.lm.contains (name, q) && decide (nm = m) && ckE c o o' && ckLd c name es es' && plainB o' && (apos.endLine == cpos.line) && decide (es'.length < 28) && !c.hot
    | _ => false)
end
def nodupB : List Str → Bool
  | [] => true
  | x :: r => !r.contains x && nodupB r
/-- names bound in the def itself alone -/
def locL (sc : Scope) (x : Str) : Bool := decide (sc.names.lookup x = some .local)
def noNd : Str → Arguments → FuncBody → Scope → List Str → Bool := fun _ _ _ _ _ => false
/-- a function made within a def; fr: what it captures -/
def ckN (xs fs : List Str) (d : Fn) (params : Arguments) (bd : FuncBody) (scope : Scope) (fr : List Str) : Bool := match plainA params with
  | none => false
  | some ps => decide (d.ps = ps ++ fr) && NdefX.nscB d.N ps fr scope && (match bd with
    | .stmts b => ckSs ⟨d.N, scope, xs, fs, locL scope, false, [], noNd⟩ d.body b
    | .expr e => (match d.body with
      | .cons (.ret m) .nil => ckE ⟨d.N, scope, xs, fs, locL scope, false, [], noNd⟩ m e
      | _ => false))
def ndOf (xs fs : List Str) (nd : List (Str × Fn)) : Str → Arguments → FuncBody → Scope → List Str → Bool := fun id params bd scope fr => match nd.lookup id with
  | some d => ckN xs fs d params bd scope fr
  | none => false
/-- a def of the text -/
def ckF (xs fs : List Str) (d : Fn) (st : Stmt) (lm : List (Str × Str) := []) (nd : List (Str × Fn) := []) : Bool := match st with
  | .FunctionDef _ a b _ _ _ sc _ _ _ => ckSs ⟨d.N, sc, xs, fs, locB sc, false, lm, ndOf xs fs nd⟩ d.body b && decide (sc.kind = .function) && !sc.isCoroutine && !sc.isGenerator && decide d.N.Nodup && decide (d.N.take d.ps.length = d.ps)
      && d.ps.all (fun x => locB sc x) && sc.names.all (fun y => decide (y.2 ≠ .free))
      && decide (a.args.map (·.arg) = d.ps) && a.posonlyargs.isEmpty && a.vararg.isNone && a.kwonlyargs.isEmpty && a.kw_defaults.isEmpty && a.kwarg.isNone
  | _ => false
end AM
end

section
set_option linter.all false
set_option maxRecDepth 100000
set_option maxHeartbeats 4000000
/-! AM, between: functions made within a def; a def called with one: what is called has a base with the function and its cells in it. -/
namespace AM
open PySem PySem.Spec PyProof.Rows L2 LamX NdefX

/-- its words -/
abbrev cloFd (nm q : Str) (params : Arguments) (bd : FuncBody) (scope : Scope) (cl : List (Str × Addr)) (c : Addr) (doc pm ctv : Value) : FuncData :=
  { name := nm, qualname := q, params, body := bd, scope, globals := mainGlobals, closure := cl, defaults := .none, kwdefaults := .none, doc := doc, pyModule := pm, annotations := none, code := .ref c, closureTuple := ctv, builtins := builtinsNs }
theorem bind_plain {params : Arguments} {ps : List Str} (h : plainA params = some ps) {nm q : Str} {bd : FuncBody} {scope : Scope} {cl : List (Str × Addr)} {c : Addr} {doc pm ctv : Value} {us : List Value} (hl : us.length = ps.length) :
    bindArgs (cloFd nm q params bd scope cl c doc pm ctv) ⟨us, []⟩ = pure (ps.zip us) := by
  unfold plainA at h
  split at h
  · cases h
    match us, hl with
    | [], _ => rfl
  · cases h
    match us, hl with
    | [u], _ =>
      unfold bindArgs
      simp only [List.map_nil, List.map_cons, List.nil_append, List.zip_cons_cons, List.zip_nil_right, List.length_cons, List.length_nil]
      first | rfl | (simp [seqItems?, List.lookup]; done) | (simp [seqItems?, List.lookup]; rfl)
  · split at h
    · cases h
    · rename_i a p1 b p2 hab
      cases h
      match us, hl with
      | [u, v], _ =>
        have e : (b == a) = false := beq_false_of_ne fun z => hab z.symm
        unfold bindArgs
        simp only [List.map_nil, List.map_cons, List.nil_append, List.zip_cons_cons, List.zip_nil_right, List.length_cons, List.length_nil]
        first | (simp [seqItems?, List.lookup, e]; done) | (simp [seqItems?, List.lookup, e]; rfl)
  · cases h

/-- what the captured cells hold -/
structure CellsB (cl : List (Str × Addr)) (fr : List Str) (xs : List V) (h : Heap) : Prop where
  len : xs.length = fr.length
  all : ∀ y c, cl.lookup y = some c → ∃ v, h.IsCell c v
  inj : ∀ x y c, cl.lookup x = some c → cl.lookup y = some c → x = y
  has : ∀ (i : Nat) (y : Str), fr[i]? = some y → ∃ c, cl.lookup y = some c ∧ ∃ v u, xs[i]? = some v ∧ L2.RelV v u ∧ h.IsCell c (some u)
theorem CellsB.keeps {cl : List (Str × Addr)} {fr : List Str} {xs : List V} {h h' : Heap} (C : CellsB cl fr xs h) (k : ∀ b o, h.get? b = some o → h'.get? b = some o) : CellsB cl fr xs h' :=
  ⟨C.len, fun y c e => let ⟨v, o, ho, hd⟩ := C.all y c e; ⟨v, o, k _ _ ho, hd⟩, C.inj, fun i y e => let ⟨c, e1, v, u, e2, r, o, ho, hd⟩ := C.has i y e; ⟨c, e1, v, u, e2, r, o, k _ _ ho, hd⟩⟩
theorem CellsB.at_ {cl : List (Str × Addr)} {fr : List Str} {xs : List V} {base h : Heap} {H : Hp} (C : CellsB cl fr xs base) (k : ∀ b o, base.get? b = some o → h.get? b = some o ∧ H b = none) : CellsAt cl fr (xs.map some) h H where
  len := by rw [List.length_map]; exact C.len
  all := fun y c e => let ⟨v, o, ho, hd⟩ := C.all y c e; ⟨(k _ _ ho).2, v, o, (k _ _ ho).1, hd⟩
  inj := C.inj
  has := fun i y e => by
    obtain ⟨c, e1, v, u, e2, r, o, ho, hd⟩ := C.has i y e
    refine ⟨c, e1, fun v' ev => ?_⟩
    rw [List.getElem?_map, e2] at ev
    cases ev
    exact ⟨u, r, o, (k _ _ ho).1, hd⟩
abbrev nfOf (nm q : Str) (params : Arguments) (scope : Scope) (cl : List (Str × Addr)) (c : Addr) : NF := ⟨nm, q, params, [], scope, cl, c⟩
section
variable {CX : CXT} {P : Program} {w : World} {K : PySem.W.Frag} {mg : Str → Option Value} {base : Heap} {N ps fr : List Str} {f c : Addr} {k : Nat} {nm q : Str} {params : Arguments} {bd : FuncBody} {scope : Scope} {cl : List (Str × Addr)} {doc pm ctv : Value} {od : Option Addr} {sl : Array (Option Value)} {xs : List V}
/-- its call, by its body -/
theorem clo_run (hpl : plainA params = some ps) (S : NScope N ps fr scope) (ho : base.get? f = some (⟨.type "function", od, .func (cloFd nm q params bd scope cl c doc pm ctv), sl⟩ : Obj)) (C : CellsB cl fr xs base)
    {A : Around} {outer : List PySem.Env} {s : Shared} {H : Hp} {us : List Value} {vs : List V} {Q : VK} {E : XK} (hr : Room (k + 1) A) (e0 : Env0 P w K mg base A outer s H) (hc : H c = some (CodeO c q)) (r : Vals vs us) (hl : vs.length = ps.length)
    (hbody : Room k (A.deeper (envF (nfOf nm q params scope cl c) f s.heap.objs.size)) →
      (∀ b, bd = .stmts b → ∃ t, PSs (ncx CX P w K mg base N (nfOf nm q params scope cl c) f A outer s H E) b t ∧ t { nx := fun _ H' => Q .non H', rt := Q } (startF N vs (xs.map some)) H) ∧
      (∀ e, bd = .expr e → ∃ t, PE (ncx CX P w K mg base N (nfOf nm q params scope cl c) f A outer s H E) e t ∧ t (startF N vs (xs.map some)) H Q)) :
    codeAny (model P w) A (.call (.ref f) ⟨us, []⟩) (CR CX outer P w H s Q E) s := by
  have hf := (e0.bs f _ ho).1
  have C1 := C.at_ e0.bs
  have lim : s.heap.NoLimit := e0.mod.nolimit.keeps fun b o e => (e0.bs b o e).1
  have kind := S.kind
  obtain ⟨hb1, hb2⟩ := hbody (hr.deeper _)
  have fin : ∀ {σ' : L2.St} {H' : Hp} {v : V} {u : Value} {s' : Shared}, Inv (ncx CX P w K mg base N (nfOf nm q params scope cl c) f A outer s H E) [] σ' H' s' → L2.RelV v u → Q v H' → CE outer P w H s Q u s' :=
    fun {σ' H' v u s'} J rv q => ⟨v, H', J.os, J.bare, J.base, J.hok, rv, q⟩
  have start : ∀ h₁ : Heap, (h₁.Ns s.heap.objs.size fun y => (ps.zip us).reverse.lookup y) → (∀ b o, s.heap.get? b = some o → h₁.get? b = some o) → ∀ tk, Inv (ncx CX P w K mg base N (nfOf nm q params scope cl c) f A outer s H E) [] (startF N vs (xs.map some)) H { s with heap := h₁, toks := tk } :=
    fun h₁ hns kp tk => inv_startN S hr.hd e0 hl r C1 hns kp
  have nloc : ∀ y ∈ ps.zip us, scope.names.lookup y.1 = some .local := fun ⟨n, _⟩ hy => S.par n (List.of_mem_zip hy).1
  cases bd with
  | stmts b =>
    obtain ⟨t, ht, hq⟩ := hb1 b rfl
    refine codeAny_call_function hr.depth hf rfl S.co S.gen rfl (codeO_at e0.hok hc) ?_
    rw [bind_plain hpl (by rw [← r.length]; exact hl)]
    refine wpAny_pure (wpAny_newFunctionEnv S.nocell nloc (fun h₁ hns hsb => ⟨lim.fresh _ hsb, ?_⟩) S.kind)
    show codeAny _ _ (.func b (envF (nfOf nm q params scope cl c) f s.heap.objs.size)) _ _
    refine codeAny_func ?_
    have kp : ∀ b o, s.heap.get? b = some o → h₁.get? b = some o := fun b o e => hsb.extBut b o (Nat.ne_of_lt (Heap.lt_size e)) (Heap.get?_push_of_some _ e)
    refine wpAny_mono (ht.run [] _ (startF N vs (xs.map some)) H _ (start h₁ hns kp _) hq) (fun fl s' hs => ?_) fun e s' hs => hs
    cases fl with
    | ret u =>
      obtain ⟨v, σ', H', J, rv, q⟩ := hs
      exact fin J rv q
    | next =>
      obtain ⟨σ', H', J, q⟩ := hs
      exact fin (v := V.non) (u := Value.none) J rfl q
    | brk =>
      obtain ⟨_, _, _, q⟩ := hs
      exact False.elim q
    | cont =>
      obtain ⟨_, _, _, q⟩ := hs
      exact False.elim q
  | expr e =>
    obtain ⟨t, ht, hq⟩ := hb2 e rfl
    refine PySem.W.kla_callFunE hr.depth hf rfl S.co S.gen rfl (codeO_at e0.hok hc) ?_
    rw [bind_plain hpl (by rw [← r.length]; exact hl)]
    refine wpAny_pure (wpAny_newFunctionEnv S.nocell nloc (fun h₁ hns hsb => ⟨lim.fresh _ hsb, ?_⟩) S.kind)
    show codeAny _ _ (.expr e (envF (nfOf nm q params scope cl c) f s.heap.objs.size)) _ _
    have kp : ∀ b o, s.heap.get? b = some o → h₁.get? b = some o := fun b o e => hsb.extBut b o (Nat.ne_of_lt (Heap.lt_size e)) (Heap.get?_push_of_some _ e)
    refine PySem.W.kla_codeExpr (wpAny_mono (ht.run [] _ (startF N vs (xs.map some)) H _ (start h₁ hns kp _) hq) (fun v s' hs => ?_) fun e s' hs => hs)
    obtain ⟨v', H', J, rv, q⟩ := hs
    exact fin J rv q
end
section
variable {X : Cx} {pins : List (Addr × Obj)} {σ : L2.St} {H : Hp} {s : Shared}
/-- the table at P tells the code object at c', as it stood or from now on -/
def TabUpC (P : Addr) (q : Str) (c' : Addr) (H H1 : Hp) : Prop := (H1 = H ∧ ∃ (ps : Array Value) (pos : Pos), H P = some (.tbl ps) ∧ codeAmong pos ps.toList = some (.ref c')) ∨ ∃ (ps more : Array Value), H P = some (.tbl ps) ∧ H c' = none ∧ H1 = upd (upd H P (.tbl (ps ++ more))) c' (CodeO c' q) ∧ TriplesOk (ps ++ more).toList ∧
  ∀ (pos : Pos) (cv : Value), codeAmong pos (ps ++ more).toList = some cv → codeAmong pos ps.toList = some cv ∨ cv = .ref c'
/-- a lambda is made; its object is not tracked -/
theorem lam_free {c P : Addr} {q : Str} {params : Arguments} {body : Expr} {scope : Scope} {pos : Pos} {E : Value → Shared → Prop} {Q : Value → Shared → Prop} (I : Inv X pins σ H s) (TB : TabB X.base X.mg c P) (hcode : X.env.code = .ref c)
    (hq : X.env.qual ++ "<lambda>" = q) (hT : TabS H P q) (hdef : defaultsOf params X.env = ([], [])) (hfree : ∀ y ∈ scope.names, y.2 = .free → ∃ c, X.env.cells.lookup y.1 = some c)
    (h : ∀ (f c' : Addr) (pm ctv : Value) (H1 : Hp) (s' : Shared), Inv X pins σ H1 s' → s'.heap.get? f = some (PySem.W.kla_obj "<lambda>" q params body scope (cloFrom X.env.cells scope.names []) pm c' ctv) → H1 f = none → f ∉ frs X.stack → TabUpC P q c' H H1 → Q (.ref f) s') :
    wpAny (model X.prog X.w) X.A (eval (.Lambda params body scope pos) X.env) Q E s := by
  subst hq
  obtain ⟨ps, hP, ht, ha⟩ := hT
  have bP : s.heap.BuiltinsAt X.mg P := TB.bm.keeps I.bk
  have hP' : s.heap.get? P = some { cls := .none, data := .fields ps } := I.hok P _ hP
  have nofr : ∀ f, s.heap.objs.size ≤ f → f ∉ frs X.stack := fun f hf z => by
    rcases List.mem_cons.mp (I.stkSub _ z) with e | e
    · have h1 := I.lt
      rw [← e] at h1
      exact Nat.lt_irrefl _ (Nat.lt_of_lt_of_le h1 hf)
    · exact I.nofs hf e
  refine PySem.W.kla_eval hdef ?_
  cases hc : codeAmong pos ps.toList with
  | some cv =>
    obtain ⟨c', e, hco⟩ := ha pos cv hc
    subst e
    refine PySem.W.kla_makeFunctionHit (mg := X.mg) (c := c) (P := P) (ps := ps) (closure_ok hfree) I.ok.glob (I.mod.glob.keeps I.bk) hcode (TB.code.keeps I.bk) hP' ht hc bP fun ctv h' tk hx hsz => ?_
    have I1 : Inv X pins σ H { s with heap := h'.push (PySem.W.kla_obj "<lambda>" (X.env.qual ++ "<lambda>") params body scope (cloFrom X.env.cells scope.names []) ((X.mg "__name__").getD .none) c' ctv), toks := tk } := I.kept fun b o e => Heap.get?_push_of_some _ (hx b o e)
    exact h h'.objs.size c' _ ctv H _ I1 (Heap.get?_push_size _ rfl) (I.hok.fresh hsz) (nofr _ hsz) (.inl ⟨rfl, ps, pos, hP, hc⟩)
  | none =>
    refine PySem.W.kla_makeFunction (mg := X.mg) (c := c) (P := P) (ps := ps) (closure_ok hfree) I.ok.glob (I.mod.glob.keeps I.bk) hcode (TB.code.keeps I.bk) hP' ht hc TB.gP bP fun c' ctv h' tk hx hge hlt hrec htb => ?_
    obtain ⟨c2, oc, vs, t, e2, hoc, hd, hv⟩ := hrec
    cases e2
    have hsz : s.heap.objs.size ≤ h'.objs.size := Nat.le_trans hge (Nat.le_of_lt hlt)
    have nC : H c' = none := I.hok.fresh hge
    have eL : (ps ++ #[rawInt pos.line, rawInt pos.col, .ref c']).toList = ps.toList ++ [rawInt pos.line, rawInt pos.col, .ref c'] := by simp
    have I1 := inv_table (t' := tk) (more := #[rawInt pos.line, rawInt pos.col, .ref c']) (h' := h'.push (PySem.W.kla_obj "<lambda>" (X.env.qual ++ "<lambda>") params body scope (cloFrom X.env.cells scope.names []) ((X.mg "__name__").getD .none) c' ctv)) I hP
      (fun b o hb e => Heap.get?_push_of_some _ (hx b o hb e)) (Heap.get?_push_of_some _ htb) hge ⟨oc, vs, t, Heap.get?_push_of_some _ hoc, hd, hv⟩
    refine h h'.objs.size c' _ ctv _ _ I1 (Heap.get?_push_size _ rfl) ?_ (nofr _ hsz) (.inr ⟨ps, _, hP, nC, rfl, by rw [eL]; exact PySem.TriplesOk_snoc _ _ _ _ ht, fun p' cv hcv => ?_⟩)
    · have n1 : h'.objs.size ≠ c' := Nat.ne_of_gt hlt
      have n2 : h'.objs.size ≠ P := Nat.ne_of_gt (Nat.lt_of_lt_of_le (Heap.lt_size hP') hsz)
      rw [upd_ne n1, upd_ne n2]
      exact I.hok.fresh hsz
    · rw [eL] at hcv
      exact among_app _ ht hcv
/-- a def within a def is made; its object is not tracked -/
theorem def_free {c P : Addr} {q name : Str} {params : Arguments} {body : List Stmt} {scope : Scope} {pos : Pos} {E : Value → Shared → Prop} {Q : Value → Shared → Prop} (I : Inv X pins σ H s) (TB : TabB X.base X.mg c P) (hcode : X.env.code = .ref c)
    (hT : TabS H P q) (hfree : ∀ y ∈ scope.names, y.2 = .free → ∃ c, X.env.cells.lookup y.1 = some c)
    (h : ∀ (f c' : Addr) (doc pm ctv : Value) (H1 : Hp) (s' : Shared), Inv X pins σ H1 s' → s'.heap.get? f = some (⟨.type "function", none, .func (cloFd name q params (.stmts body) scope (cloFrom X.env.cells scope.names []) c' doc pm ctv), #[]⟩ : Obj) → H1 f = none → f ∉ frs X.stack → TabUpC P q c' H H1 → Q (.ref f) s') :
    wpAny (model X.prog X.w) X.A (makeFunction name q params (.stmts body) scope X.env [] [] [] pos pos.line) Q E s := by
  obtain ⟨ps, hP, ht, ha⟩ := hT
  have bP : s.heap.BuiltinsAt X.mg P := TB.bm.keeps I.bk
  have hP' : s.heap.get? P = some { cls := .none, data := .fields ps } := I.hok P _ hP
  have nofr : ∀ f, s.heap.objs.size ≤ f → f ∉ frs X.stack := fun f hf z => by
    rcases List.mem_cons.mp (I.stkSub _ z) with e | e
    · have h1 := I.lt
      rw [← e] at h1
      exact Nat.lt_irrefl _ (Nat.lt_of_lt_of_le h1 hf)
    · exact I.nofs hf e
  cases hc : codeAmong pos ps.toList with
  | some cv =>
    obtain ⟨c', e, hco⟩ := ha pos cv hc
    subst e
    refine PySem.W.makeFunction_hit (mg := X.mg) (c := c) (P := P) (ps := ps) (closure_ok hfree) I.ok.glob (I.mod.glob.keeps I.bk) hcode (TB.code.keeps I.bk) hP' ht hc bP fun ctv doc h' tk hx hsz => ?_
    have I1 : Inv X pins σ H { s with heap := h'.push (⟨.type "function", none, .func (cloFd name q params (.stmts body) scope (cloFrom X.env.cells scope.names []) c' doc ((X.mg "__name__").getD .none) ctv), #[]⟩ : Obj), toks := tk } := I.kept fun b o e => Heap.get?_push_of_some _ (hx b o e)
    exact h h'.objs.size c' doc _ ctv H _ I1 (Heap.get?_push_size _ rfl) (I.hok.fresh hsz) (nofr _ hsz) (.inl ⟨rfl, ps, pos, hP, hc⟩)
  | none =>
    refine PySem.W.makeFunction_K (mg := X.mg) (c := c) (P := P) (ps := ps) (closure_ok hfree) I.ok.glob (I.mod.glob.keeps I.bk) hcode (TB.code.keeps I.bk) hP' ht hc TB.gP bP fun c' ctv doc h' tk hx hge hlt hrec htb => ?_
    obtain ⟨c2, oc, vs, t, e2, hoc, hd, hv⟩ := hrec
    cases e2
    have hsz : s.heap.objs.size ≤ h'.objs.size := Nat.le_trans hge (Nat.le_of_lt hlt)
    have nC : H c' = none := I.hok.fresh hge
    have eL : (ps ++ #[rawInt pos.line, rawInt pos.col, .ref c']).toList = ps.toList ++ [rawInt pos.line, rawInt pos.col, .ref c'] := by simp
    have I1 := inv_table (t' := tk) (more := #[rawInt pos.line, rawInt pos.col, .ref c']) (h' := h'.push (⟨.type "function", none, .func (cloFd name q params (.stmts body) scope (cloFrom X.env.cells scope.names []) c' doc ((X.mg "__name__").getD .none) ctv), #[]⟩ : Obj)) I hP
      (fun b o hb e => Heap.get?_push_of_some _ (hx b o hb e)) (Heap.get?_push_of_some _ htb) hge ⟨oc, vs, t, Heap.get?_push_of_some _ hoc, hd, hv⟩
    refine h h'.objs.size c' doc _ ctv _ _ I1 (Heap.get?_push_size _ rfl) ?_ (nofr _ hsz) (.inr ⟨ps, _, hP, nC, rfl, by rw [eL]; exact PySem.TriplesOk_snoc _ _ _ _ ht, fun p' cv hcv => ?_⟩)
    · have n1 : h'.objs.size ≠ c' := Nat.ne_of_gt hlt
      have n2 : h'.objs.size ≠ P := Nat.ne_of_gt (Nat.lt_of_lt_of_le (Heap.lt_size hP') hsz)
      rw [upd_ne n1, upd_ne n2]
      exact I.hok.fresh hsz
    · rw [eL] at hcv
      exact among_app _ ht hcv
/-- the base, with a function made here and the frame's cells -/
theorem base_add (I : Inv X pins σ H s) (hall : ∀ x, X.fn x = true) {f : Addr} {ob : Obj} (hf : s.heap.get? f = some ob) (hn : H f = none) (hfr : f ∉ frs X.stack) :
    ∃ base' : Heap, (∀ b o, X.base.get? b = some o → base'.get? b = some o) ∧ base'.get? f = some ob ∧ (∀ y c o, X.env.cells.lookup y = some c → s.heap.get? c = some o → base'.get? c = some o) ∧ Env0 X.prog X.w X.K X.mg base' X.A X.stack s H := by
  have key : ∃ l : List Addr, ∀ b, b ∈ l ↔ (b < s.heap.objs.size ∧ (X.base.get? b) = none ∧ b ≠ f ∧ ∀ y, X.env.cells.lookup y ≠ some b) :=
    ⟨(List.range s.heap.objs.size).filter fun b => @decide ((X.base.get? b) = none ∧ b ≠ f ∧ ∀ y, X.env.cells.lookup y ≠ some b) (Classical.propDecidable _), fun b => by
      simp only [List.mem_filter, List.mem_range, decide_eq_true_eq]⟩
  obtain ⟨l, hl⟩ := key
  have sub : ∀ b o, X.base.get? b = some o → (PySem.W.hideAll s.heap l).get? b = some o := fun b o e => PySem.W.hideAll_get l (I.bk b o e) fun z => by
    have := ((hl b).mp z).2.1
    rw [e] at this; cases this
  have back : ∀ b o, (PySem.W.hideAll s.heap l).get? b = some o → s.heap.get? b = some o ∧ ((∃ o', X.base.get? b = some o') ∨ b = f ∨ ∃ y, X.env.cells.lookup y = some b) := fun b o e => by
    refine ⟨PySem.W.of_hideAll l e, ?_⟩
    by_cases h1 : ∃ o', X.base.get? b = some o'
    · exact .inl h1
    by_cases h2 : b = f
    · exact .inr (.inl h2)
    by_cases h3 : ∃ y, X.env.cells.lookup y = some b
    · exact .inr (.inr h3)
    have hm : b ∈ l := (hl b).mpr ⟨Heap.lt_size (PySem.W.of_hideAll l e), by
      cases q : X.base.get? b with
      | none => rfl
      | some o' => exact (h1 ⟨o', q⟩).elim, h2, fun y e => h3 ⟨y, e⟩⟩
    rw [PySem.W.hideAll_none l hm] at e; cases e
  refine ⟨PySem.W.hideAll s.heap l, sub, PySem.W.hideAll_get l hf fun z => ((hl f).mp z).2.2.1 rfl, fun y c o e1 e2 => PySem.W.hideAll_get l e2 fun z => ((hl c).mp z).2.2.2 y e1, ?_⟩
  have e0 := I.env0
  refine ⟨e0.frames, ⟨e0.mod.kin.keeps sub, e0.mod.glob.keeps sub, ?_, e0.mod.nolimit.keeps sub⟩, fun b o e => ?_, Nat.le_of_eq (PySem.W.hideAll_size _ _), ?_, e0.frf, e0.hok, e0.bare⟩
  · obtain ⟨mb, h1, h2⟩ := e0.mod.blt
    exact ⟨mb, h1.keeps sub, h2⟩
  · obtain ⟨h1, h2⟩ := back b o e
    refine ⟨h1, ?_⟩
    rcases h2 with ⟨o', h2⟩ | h2 | ⟨y, h2⟩
    · exact (e0.bs b o' h2).2
    · rw [h2]; exact hn
    · exact I.freeC y b h2
  · have out : ∀ L, L ∈ frs X.stack → X.base.get? L = none → (PySem.W.hideAll s.heap l).get? L = none := fun L hL hb => by
      cases q : (PySem.W.hideAll s.heap l).get? L with
      | none => rfl
      | some o =>
        obtain ⟨h1, h2⟩ := back L o q
        rcases h2 with ⟨o', h2⟩ | h2 | ⟨y, h2⟩
        · rw [hb] at h2; cases h2
        · rw [h2] at hL; exact absurd hL hfr
        · rcases List.mem_cons.mp (I.stkSub L hL) with z | z
          · exact absurd z (I.cne y L h2)
          · obtain ⟨_, o2, ho2, _⟩ := I.ok.funs.mem z
            exact absurd (Nat.lt_of_lt_of_le (Heap.lt_size ho2) (I.ok.cab y L (hall y) h2)) (Nat.lt_irrefl _)
    have all : ∀ (l2 : List PySem.Env), (∀ b ∈ frs l2, b ∈ frs X.stack) → s.heap.FunFrames X.base l2 → s.heap.FunFrames (PySem.W.hideAll s.heap l) l2 := by
      intro l2
      induction l2 with
      | nil => intro _ _; trivial
      | cons env r ih =>
        intro hs hl2
        obtain ⟨hk, ⟨L, o, hf2, hn2, ho2, hd2⟩, hr⟩ := hl2
        have hL : L ∈ frs X.stack := hs L (by unfold frs; rw [List.filterMap_cons, hf2]; exact List.mem_cons_self)
        exact ⟨hk, ⟨L, o, hf2, out L hL hn2, ho2, hd2⟩, ih (fun b hb => hs b (by unfold frs; rw [List.filterMap_cons, hf2]; exact List.mem_cons_of_mem _ hb)) hr⟩
    exact all X.stack (fun _ hb => hb) e0.funs
end
end AM
end

section
set_option linter.all false
set_option maxRecDepth 100000
set_option maxHeartbeats 4000000
/-! AM, aside: == of a dict and a list or a tuple. -/
namespace PySem.SeqAt
open AutoSeq1 (wpAny_loadPart')
open MeetsSeq MeetsSeq2 MeetsSeq3 PySem.W
theorem list_eq_declines_dict (l b : Addr) (items : Array Value) (es : Array DictEntry) (n n2 : Nat) (dd dd2 : Option Addr) (sl sl2 : Array (Option Value)) :
    Meets (Builtin.«list.__eq__» ⟨[.ref l, .ref b], []⟩) (fun _ R s => s.heap.get? l = some { cls := .type "list", dict := dd, data := .seq items n, slots := sl } ∧ s.heap.get? b = some { cls := .type "dict", dict := dd2, data := .dict es n2, slots := sl2 } ∧ R (.ok (.ret .notImplemented)) s) :=
  .of_wp fun prog w A R s h => by obtain ⟨hp, g, d, tk, os⟩ := s; obtain ⟨hl, hb, h⟩ := h; have f1 := F.sub_dict_list; wp_walk using wpAny_loadPart' hl, wpAny_loadPart' hb; exact ⟨_, rfl, h⟩
theorem tuple_eq_declines_dict (l b : Addr) (items : Array Value) (es : Array DictEntry) (n n2 : Nat) (dd dd2 : Option Addr) (sl sl2 : Array (Option Value)) :
    Meets (Builtin.«tuple.__eq__» ⟨[.ref l, .ref b], []⟩) (fun _ R s => s.heap.get? l = some { cls := .type "tuple", dict := dd, data := .seq items n, slots := sl } ∧ s.heap.get? b = some { cls := .type "dict", dict := dd2, data := .dict es n2, slots := sl2 } ∧ R (.ok (.ret .notImplemented)) s) :=
  .of_wp fun prog w A R s h => by obtain ⟨hp, g, d, tk, os⟩ := s; obtain ⟨hl, hb, h⟩ := h; have f1 := F.sub_dict_tuple; wp_walk using wpAny_loadPart' hl, wpAny_loadPart' hb; exact ⟨_, rfl, h⟩
theorem list_ne_declines_dict (l b : Addr) (items : Array Value) (es : Array DictEntry) (n n2 : Nat) (dd dd2 : Option Addr) (sl sl2 : Array (Option Value)) :
    Meets (Builtin.«list.__ne__» ⟨[.ref l, .ref b], []⟩) (fun _ R s => s.heap.get? l = some { cls := .type "list", dict := dd, data := .seq items n, slots := sl } ∧ s.heap.get? b = some { cls := .type "dict", dict := dd2, data := .dict es n2, slots := sl2 } ∧ R (.ok (.ret .notImplemented)) s) :=
  .of_wp fun prog w A R s h => by obtain ⟨hp, g, d, tk, os⟩ := s; obtain ⟨hl, hb, h⟩ := h; have f1 := F.sub_dict_list; wp_walk using wpAny_loadPart' hl, wpAny_loadPart' hb; exact ⟨_, rfl, h⟩
theorem tuple_ne_declines_dict (l b : Addr) (items : Array Value) (es : Array DictEntry) (n n2 : Nat) (dd dd2 : Option Addr) (sl sl2 : Array (Option Value)) :
    Meets (Builtin.«tuple.__ne__» ⟨[.ref l, .ref b], []⟩) (fun _ R s => s.heap.get? l = some { cls := .type "tuple", dict := dd, data := .seq items n, slots := sl } ∧ s.heap.get? b = some { cls := .type "dict", dict := dd2, data := .dict es n2, slots := sl2 } ∧ R (.ok (.ret .notImplemented)) s) :=
  .of_wp fun prog w A R s h => by obtain ⟨hp, g, d, tk, os⟩ := s; obtain ⟨hl, hb, h⟩ := h; have f1 := F.sub_dict_tuple; wp_walk using wpAny_loadPart' hl, wpAny_loadPart' hb; exact ⟨_, rfl, h⟩
section
variable {prog : Program} {w : World} {K : Type} [DecidableEq K] {knd : KeyKind prog w K} {A : Around} {E : Value → Shared → Prop} {s : Shared}
/-- dict.__eq__ and dict.__ne__ tell nothing of what is no dict -/
theorem dict_eq_declines {a : Addr} {y : Value} {T : String} {Q : Value → Shared → Prop} (da : s.TypeIs (.ref a) "dict") (hy : s.TypeIs y T) (hs : isSubtype (.type T) (.type "dict") = pure false) (h : Q .notImplemented s) :
    wpAny (model prog w) A (call (.builtin "dict.__eq__") [.ref a, y]) Q E s := by
  refine wpAny_call_entry PySem.F.slot_dict_eq da PySem.F.entry_dict_eq ?_ (PySem.F.args_dict_eq_2 _ _)
  show wpAny _ _ (Builtin.Dict.dictSlotArgs "__eq__" ⟨[.ref a, y], []⟩ >>= _) _ _ s
  refine wpAny_bind ?_
  unfold Builtin.Dict.dictSlotArgs
  refine wpAny_bind (wpAny_notOrdered_dict da ?_)
  show wpAny _ _ (pure (Value.ref a, y)) _ _ s
  refine wpAny_pure ?_
  refine wpAny_bind (wpAny_isInstance (T := T) hy hs ?_)
  simp only [Bool.not_false, if_true]
  exact wpAny_bind (wpAny_rule (wpAny_pure ⟨_, rfl, h⟩))
theorem dict_ne_declines {a : Addr} {y : Value} {T : String} {Q : Value → Shared → Prop} (da : s.TypeIs (.ref a) "dict") (hy : s.TypeIs y T) (hs : isSubtype (.type T) (.type "dict") = pure false) (h : Q .notImplemented s) :
    wpAny (model prog w) A (call (.builtin "dict.__ne__") [.ref a, y]) Q E s := by
  refine wpAny_call_entry PySem.F.slot_dict_ne da PySem.F.entry_dict_ne ?_ (PySem.F.args_dict_ne_2 _ _)
  show wpAny _ _ (Builtin.Dict.dictSlotArgs "__ne__" ⟨[.ref a, y], []⟩ >>= _) _ _ s
  refine wpAny_bind ?_
  unfold Builtin.Dict.dictSlotArgs
  refine wpAny_bind (wpAny_notOrdered_dict da ?_)
  show wpAny _ _ (pure (Value.ref a, y)) _ _ s
  refine wpAny_pure ?_
  refine wpAny_bind (wpAny_isInstance (T := T) hy hs ?_)
  simp only [Bool.not_false, if_true]
  exact wpAny_bind (wpAny_rule (wpAny_pure ⟨_, rfl, h⟩))
/-- what stands at a dict's place -/
def DObj (h : Heap) (a : Addr) : Prop := ∃ dd es ep sl, h.get? a = some { cls := .type "dict", dict := dd, data := .dict es ep, slots := sl }
theorem dict_obj {a : Addr} {ka : List (K × Value)} (da : s.heap.DictOf knd a ka) : DObj s.heap a := by
  obtain ⟨o, es, ep, ho, hc, hd, _⟩ := da
  obtain ⟨cls, dd, data, sl⟩ := o
  simp only at hd
  have hc' : cls = .type "dict" := hc.1
  subst hc' hd
  exact ⟨_, _, _, _, ho⟩
theorem ne_of_cls {l b : Addr} {o o' : Obj} (h1 : s.heap.get? l = some o) (h2 : s.heap.get? b = some o') (h : o.cls ≠ o'.cls) : l ≠ b := fun e => by subst e; rw [h1] at h2; cases h2; exact h rfl
theorem RcAt.dict_list {a l : Addr} {items : Array Value} (da : DObj s.heap a) (hl : s.heap.IsList l items) (hu : A.units < cLine) : RcAt A s (.ref a) (.ref l) false := fun prog w E Q h => by
  obtain ⟨dd, es, ep, sl, ho⟩ := da
  obtain ⟨⟨cls2, dd2, data2, sl2⟩, ho2, hc2, n2, hd2⟩ := id hl
  simp only at hc2 hd2
  subst hc2 hd2
  exact (rc_eq_decline_or (k := false) ⟨_, ho, rfl⟩ ⟨_, ho2, rfl⟩ (by decide) F.sub_list_dict F.slot_dict_eq F.slot_list_eq_refl
    (fun _ hq => dict_eq_declines ⟨_, ho, rfl⟩ ⟨_, ho2, rfl⟩ F.sub_list_dict hq)
    (fun _ hq => call_meets F.slot_list_eq_refl ⟨_, ho2, rfl⟩ F.entry_list_eq (F.args_list_eq_2 _ _) (list_eq_declines_dict l a items es n2 ep dd2 dd sl2 sl) ⟨ho2, ho, hq⟩)
    (fun _ hq => wpAny_isSame_ref_other (ne_of_cls ho ho2 (by simp)) ho ho2 (by simp) hq) (.inr hu) h)
theorem RcAt.list_dict {a l : Addr} {items : Array Value} (hl : s.heap.IsList l items) (da : DObj s.heap a) (hu : A.units < cLine) : RcAt A s (.ref l) (.ref a) false := fun prog w E Q h => by
  obtain ⟨dd, es, ep, sl, ho⟩ := da
  obtain ⟨⟨cls2, dd2, data2, sl2⟩, ho2, hc2, n2, hd2⟩ := id hl
  simp only at hc2 hd2
  subst hc2 hd2
  exact (rc_eq_decline_or (k := false) ⟨_, ho2, rfl⟩ ⟨_, ho, rfl⟩ (by decide) F.sub_dict_list F.slot_list_eq F.slot_dict_eq_refl
    (fun _ hq => call_meets F.slot_list_eq ⟨_, ho2, rfl⟩ F.entry_list_eq (F.args_list_eq_2 _ _) (list_eq_declines_dict l a items es n2 ep dd2 dd sl2 sl) ⟨ho2, ho, hq⟩)
    (fun _ hq => dict_eq_declines ⟨_, ho, rfl⟩ ⟨_, ho2, rfl⟩ F.sub_list_dict hq)
    (fun _ hq => wpAny_isSame_ref_other' (ne_of_cls ho2 ho (by simp)) ho2 ho (by simp) hq) (.inr hu) h)
theorem RcAt.dict_tuple {a l : Addr} {items : Array Value} (da : DObj s.heap a) (hl : s.heap.IsTuple l items) (hu : A.units < cLine) : RcAt A s (.ref a) (.ref l) false := fun prog w E Q h => by
  obtain ⟨dd, es, ep, sl, ho⟩ := da
  obtain ⟨⟨cls2, dd2, data2, sl2⟩, ho2, hc2, n2, hd2⟩ := id hl
  simp only at hc2 hd2
  subst hc2 hd2
  exact (rc_eq_decline_or (k := false) ⟨_, ho, rfl⟩ ⟨_, ho2, rfl⟩ (by decide) F.sub_tuple_dict F.slot_dict_eq F.slot_tuple_eq_refl
    (fun _ hq => dict_eq_declines ⟨_, ho, rfl⟩ ⟨_, ho2, rfl⟩ F.sub_tuple_dict hq)
    (fun _ hq => call_meets F.slot_tuple_eq_refl ⟨_, ho2, rfl⟩ F.entry_tuple_eq (F.args_tuple_eq_2 _ _) (tuple_eq_declines_dict l a items es n2 ep dd2 dd sl2 sl) ⟨ho2, ho, hq⟩)
    (fun _ hq => wpAny_isSame_ref_other (ne_of_cls ho ho2 (by simp)) ho ho2 (by simp) hq) (.inr hu) h)
theorem RcAt.tuple_dict {a l : Addr} {items : Array Value} (hl : s.heap.IsTuple l items) (da : DObj s.heap a) (hu : A.units < cLine) : RcAt A s (.ref l) (.ref a) false := fun prog w E Q h => by
  obtain ⟨dd, es, ep, sl, ho⟩ := da
  obtain ⟨⟨cls2, dd2, data2, sl2⟩, ho2, hc2, n2, hd2⟩ := id hl
  simp only at hc2 hd2
  subst hc2 hd2
  exact (rc_eq_decline_or (k := false) ⟨_, ho2, rfl⟩ ⟨_, ho, rfl⟩ (by decide) F.sub_dict_tuple F.slot_tuple_eq F.slot_dict_eq_refl
    (fun _ hq => call_meets F.slot_tuple_eq ⟨_, ho2, rfl⟩ F.entry_tuple_eq (F.args_tuple_eq_2 _ _) (tuple_eq_declines_dict l a items es n2 ep dd2 dd sl2 sl) ⟨ho2, ho, hq⟩)
    (fun _ hq => dict_eq_declines ⟨_, ho, rfl⟩ ⟨_, ho2, rfl⟩ F.sub_tuple_dict hq)
    (fun _ hq => wpAny_isSame_ref_other' (ne_of_cls ho2 ho (by simp)) ho2 ho (by simp) hq) (.inr hu) h)
theorem RcNeAt.dict_list {a l : Addr} {items : Array Value} (da : DObj s.heap a) (hl : s.heap.IsList l items) (hu : A.units < cLine) : RcNeAt A s (.ref a) (.ref l) true := fun prog w E Q h => by
  obtain ⟨dd, es, ep, sl, ho⟩ := da
  obtain ⟨⟨cls2, dd2, data2, sl2⟩, ho2, hc2, n2, hd2⟩ := id hl
  simp only at hc2 hd2
  subst hc2 hd2
  exact (rc_ne_decline_or (k := false) ⟨_, ho, rfl⟩ ⟨_, ho2, rfl⟩ (by decide) F.sub_list_dict F.slot_dict_ne F.slot_list_ne_refl
    (fun _ hq => dict_ne_declines ⟨_, ho, rfl⟩ ⟨_, ho2, rfl⟩ F.sub_list_dict hq)
    (fun _ hq => call_meets F.slot_list_ne_refl ⟨_, ho2, rfl⟩ F.entry_list_ne (F.args_list_ne_2 _ _) (list_ne_declines_dict l a items es n2 ep dd2 dd sl2 sl) ⟨ho2, ho, hq⟩)
    (fun _ hq => wpAny_isSame_ref_other (ne_of_cls ho ho2 (by simp)) ho ho2 (by simp) hq) (.inr hu) h)
theorem RcNeAt.list_dict {a l : Addr} {items : Array Value} (hl : s.heap.IsList l items) (da : DObj s.heap a) (hu : A.units < cLine) : RcNeAt A s (.ref l) (.ref a) true := fun prog w E Q h => by
  obtain ⟨dd, es, ep, sl, ho⟩ := da
  obtain ⟨⟨cls2, dd2, data2, sl2⟩, ho2, hc2, n2, hd2⟩ := id hl
  simp only at hc2 hd2
  subst hc2 hd2
  exact (rc_ne_decline_or (k := false) ⟨_, ho2, rfl⟩ ⟨_, ho, rfl⟩ (by decide) F.sub_dict_list F.slot_list_ne F.slot_dict_ne_refl
    (fun _ hq => call_meets F.slot_list_ne ⟨_, ho2, rfl⟩ F.entry_list_ne (F.args_list_ne_2 _ _) (list_ne_declines_dict l a items es n2 ep dd2 dd sl2 sl) ⟨ho2, ho, hq⟩)
    (fun _ hq => dict_ne_declines ⟨_, ho, rfl⟩ ⟨_, ho2, rfl⟩ F.sub_list_dict hq)
    (fun _ hq => wpAny_isSame_ref_other' (ne_of_cls ho2 ho (by simp)) ho2 ho (by simp) hq) (.inr hu) h)
theorem RcNeAt.dict_tuple {a l : Addr} {items : Array Value} (da : DObj s.heap a) (hl : s.heap.IsTuple l items) (hu : A.units < cLine) : RcNeAt A s (.ref a) (.ref l) true := fun prog w E Q h => by
  obtain ⟨dd, es, ep, sl, ho⟩ := da
  obtain ⟨⟨cls2, dd2, data2, sl2⟩, ho2, hc2, n2, hd2⟩ := id hl
  simp only at hc2 hd2
  subst hc2 hd2
  exact (rc_ne_decline_or (k := false) ⟨_, ho, rfl⟩ ⟨_, ho2, rfl⟩ (by decide) F.sub_tuple_dict F.slot_dict_ne F.slot_tuple_ne_refl
    (fun _ hq => dict_ne_declines ⟨_, ho, rfl⟩ ⟨_, ho2, rfl⟩ F.sub_tuple_dict hq)
    (fun _ hq => call_meets F.slot_tuple_ne_refl ⟨_, ho2, rfl⟩ F.entry_tuple_ne (F.args_tuple_ne_2 _ _) (tuple_ne_declines_dict l a items es n2 ep dd2 dd sl2 sl) ⟨ho2, ho, hq⟩)
    (fun _ hq => wpAny_isSame_ref_other (ne_of_cls ho ho2 (by simp)) ho ho2 (by simp) hq) (.inr hu) h)
theorem RcNeAt.tuple_dict {a l : Addr} {items : Array Value} (hl : s.heap.IsTuple l items) (da : DObj s.heap a) (hu : A.units < cLine) : RcNeAt A s (.ref l) (.ref a) true := fun prog w E Q h => by
  obtain ⟨dd, es, ep, sl, ho⟩ := da
  obtain ⟨⟨cls2, dd2, data2, sl2⟩, ho2, hc2, n2, hd2⟩ := id hl
  simp only at hc2 hd2
  subst hc2 hd2
  exact (rc_ne_decline_or (k := false) ⟨_, ho2, rfl⟩ ⟨_, ho, rfl⟩ (by decide) F.sub_dict_tuple F.slot_tuple_ne F.slot_dict_ne_refl
    (fun _ hq => call_meets F.slot_tuple_ne ⟨_, ho2, rfl⟩ F.entry_tuple_ne (F.args_tuple_ne_2 _ _) (tuple_ne_declines_dict l a items es n2 ep dd2 dd sl2 sl) ⟨ho2, ho, hq⟩)
    (fun _ hq => dict_ne_declines ⟨_, ho, rfl⟩ ⟨_, ho2, rfl⟩ F.sub_tuple_dict hq)
    (fun _ hq => wpAny_isSame_ref_other' (ne_of_cls ho2 ho (by simp)) ho2 ho (by simp) hq) (.inr hu) h)
theorem ne_dict_list {a l : Addr} {items : Array Value} (da : DObj s.heap a) (hl : s.heap.IsList l items) : a ≠ l := by
  obtain ⟨dd, es, ep, sl, ho⟩ := da
  obtain ⟨o2, ho2, hc2, _⟩ := hl
  exact ne_of_cls ho ho2 (by rw [hc2]; simp)
theorem ne_dict_tuple {a l : Addr} {items : Array Value} (da : DObj s.heap a) (hl : s.heap.IsTuple l items) : a ≠ l := by
  obtain ⟨dd, es, ep, sl, ho⟩ := da
  obtain ⟨o2, ho2, hc2, _⟩ := hl
  exact ne_of_cls ho ho2 (by rw [hc2]; simp)
end
end PySem.SeqAt
end

section
set_option linter.all false
set_option maxRecDepth 100000
set_option maxHeartbeats 1000000
/-! AM, between: a def that makes a function and gives it back. -/
namespace AM
open PySem PySem.Spec PyProof.Rows L2 LamX NdefX
section
variable {X : Cx} {pins : List (Addr × Obj)} {σ : L2.St} {H : Hp} {s : Shared}
/-- the base, with what isn't tracked and is no frame -/
theorem base_addL (I : Inv X pins σ H s) (keep : Addr → Prop) (hkp : ∀ b, keep b → H b = none ∧ b ∉ frs X.stack) :
    ∃ base' : Heap, (∀ b o, X.base.get? b = some o → base'.get? b = some o) ∧ (∀ b o, keep b → s.heap.get? b = some o → base'.get? b = some o) ∧ Env0 X.prog X.w X.K X.mg base' X.A X.stack s H := by
  have key : ∃ l : List Addr, ∀ b, b ∈ l ↔ (b < s.heap.objs.size ∧ (X.base.get? b) = none ∧ ¬ keep b) :=
    ⟨(List.range s.heap.objs.size).filter fun b => @decide ((X.base.get? b) = none ∧ ¬ keep b) (Classical.propDecidable _), fun b => by
      simp only [List.mem_filter, List.mem_range, decide_eq_true_eq]⟩
  obtain ⟨l, hl⟩ := key
  have sub : ∀ b o, X.base.get? b = some o → (PySem.W.hideAll s.heap l).get? b = some o := fun b o e => PySem.W.hideAll_get l (I.bk b o e) fun z => by
    have := ((hl b).mp z).2.1
    rw [e] at this; cases this
  have back : ∀ b o, (PySem.W.hideAll s.heap l).get? b = some o → s.heap.get? b = some o ∧ ((∃ o', X.base.get? b = some o') ∨ keep b) := fun b o e => by
    refine ⟨PySem.W.of_hideAll l e, ?_⟩
    by_cases h1 : ∃ o', X.base.get? b = some o'
    · exact .inl h1
    by_cases h2 : keep b
    · exact .inr h2
    have hm : b ∈ l := (hl b).mpr ⟨Heap.lt_size (PySem.W.of_hideAll l e), by
      cases q : X.base.get? b with
      | none => rfl
      | some o' => exact (h1 ⟨o', q⟩).elim, h2⟩
    rw [PySem.W.hideAll_none l hm] at e; cases e
  refine ⟨PySem.W.hideAll s.heap l, sub, fun b o h e => PySem.W.hideAll_get l e fun z => ((hl b).mp z).2.2 h, ?_⟩
  have e0 := I.env0
  refine ⟨e0.frames, ⟨e0.mod.kin.keeps sub, e0.mod.glob.keeps sub, ?_, e0.mod.nolimit.keeps sub⟩, fun b o e => ?_, Nat.le_of_eq (PySem.W.hideAll_size _ _), ?_, e0.frf, e0.hok, e0.bare⟩
  · obtain ⟨mb, h1, h2⟩ := e0.mod.blt
    exact ⟨mb, h1.keeps sub, h2⟩
  · obtain ⟨h1, h2⟩ := back b o e
    refine ⟨h1, ?_⟩
    rcases h2 with ⟨o', h2⟩ | h2
    · exact (e0.bs b o' h2).2
    · exact (hkp b h2).1
  · have out : ∀ L, L ∈ frs X.stack → X.base.get? L = none → (PySem.W.hideAll s.heap l).get? L = none := fun L hL hb => by
      cases q : (PySem.W.hideAll s.heap l).get? L with
      | none => rfl
      | some o =>
        obtain ⟨h1, h2⟩ := back L o q
        rcases h2 with ⟨o', h2⟩ | h2
        · rw [hb] at h2; cases h2
        · exact absurd hL (hkp L h2).2
    have all : ∀ (l2 : List PySem.Env), (∀ b ∈ frs l2, b ∈ frs X.stack) → s.heap.FunFrames X.base l2 → s.heap.FunFrames (PySem.W.hideAll s.heap l) l2 := by
      intro l2
      induction l2 with
      | nil => intro _ _; trivial
      | cons env r ih =>
        intro hs hl2
        obtain ⟨hk, ⟨L, o, hf2, hn2, ho2, hd2⟩, hr⟩ := hl2
        have hL : L ∈ frs X.stack := hs L (by unfold frs; rw [List.filterMap_cons, hf2]; exact List.mem_cons_self)
        exact ⟨hk, ⟨L, o, hf2, out L hL hn2, ho2, hd2⟩, ih (fun b hb => hs b (by unfold frs; rw [List.filterMap_cons, hf2]; exact List.mem_cons_of_mem _ hb)) hr⟩
    exact all X.stack (fun _ hb => hb) e0.funs
end
/-- what stands behind the call of a def that makes a function: the function f, its words, its cells -/
def MkEnd (P : Program) (w : World) (outer : List PySem.Env) (H : Hp) (s : Shared) (nm q : Str) (ip : Arguments) (ib : List Stmt) (isc : Scope) (T : Addr) (fr : List Str) (ws : List (Option V)) (f : Addr) (s' : Shared) : Prop :=
  ∃ (c' : Addr) (doc pm ctv : Value) (cl : List (Str × Addr)) (H1 : Hp), s'.os = s.os ∧ AllBare s'.gens ∧ Un (frs outer) [] H H1 s.heap s'.heap ∧ HOk P w H1 s'.heap ∧
    s'.heap.get? f = some (⟨.type "function", none, .func (cloFd nm q ip (.stmts ib) isc cl c' doc pm ctv), #[]⟩ : Obj) ∧ H1 f = none ∧ f ∉ frs outer ∧ TabUpC T q c' H H1 ∧ CellsAt cl fr ws s'.heap H1 ∧ ∀ y cell, cl.lookup y = some cell → cell ∉ frs outer
theorem maker_run {P : Program} {w : World} {K : PySem.W.Frag} {mg : Str → Option Value} {base : Heap} {a : Addr} {name qual nm q : Str} {params ip : Arguments} {ib : List Stmt} {scope isc : Scope} {dV kV doc pm cdv ct oc : Value} {an od : Option Addr} {osl : Array (Option Value)} {pos npos rpos : Pos} {N ps fr : List Str} {js : List Nat} {i : Nat} {c T : Addr}
    (lk : K.lookup a = some ⟨oc, od, .func (PySem.W.fnOf name qual params [.FunctionDef nm ip ib [] none [] isc none nm pos, .Return (some (.Name nm npos)) rpos] scope dV kV doc pm an cdv ct), osl⟩) (hcd : PySem.W.codeIn K cdv qual = true) (S : FnScope N ps scope)
    (hi : N[i]? = some nm) (hloc : Loc scope nm) (hdb : (nm == ("__debug__" : Str)) = false) (hcl : (nm == ("__classdict__" : Str)) = false) (hd0 : ip.defaults = []) (hk0 : ip.kw_defaults = []) (han : ∀ env, annTrees ip none env = [])
    (hnd : ndefB scope isc fr = true) (hjs : js.map (fun j => N[j]?) = fr.map some) (hij : ∀ j ∈ js, j ≠ i) (hc : cdv = .ref c) (TB : TabB base mg c T) (hq : (qual ++ ".<locals>.") ++ nm = q)
    {A : Around} {outer : List PySem.Env} {s : Shared} {H : Hp} {args : Args} {us : List Value} {vs : List V} (hr : Room 1 A) (e0 : Env0 P w K mg base A outer s H) (hb : BindsTo s (PySem.W.fnOf name qual params [.FunctionDef nm ip ib [] none [] isc none nm pos, .Return (some (.Name nm npos)) rpos] scope dV kV doc pm an cdv ct) args (ps.zip us)) (r : Vals vs us) (hl : vs.length = ps.length) (hT : TabS H T q) :
    codeAny (model P w) A (.call (.ref a) args) (fun r s' => ∃ f, r = .ok (.ret (.ref f)) ∧ MkEnd P w outer H s nm q ip ib isc T fr (js.map (NdefX.slotAt (L2.start N vs))) f s') s := by
  subst hc
  have KX : K.In s.heap := e0.mod.kin.keeps fun b o e => (e0.bs b o e).1
  have lim : s.heap.NoLimit := e0.mod.nolimit.keeps fun b o e => (e0.bs b o e).1
  have hkind : ∀ y ∈ ps.zip us, scope.names.lookup y.1 = some .local ∨ (scope.names.lookup y.1 = some .cell ∧ ((cellsFrom (s.heap.objs.size + 1) scope.names []).lookup y.1).isSome = true) := fun ⟨n, v⟩ hy => by
    rcases S.par n (List.of_mem_zip hy).1 with q | q
    · exact .inl q
    · exact .inr ⟨q, PySem.W.cellsFrom_some _ _ _ (.inl q)⟩
  refine codeAny_call_function hr.depth (KX _ _ lk) rfl S.co S.gen rfl (PySem.W.codeRec_of KX hcd) (hb _ _ _ _ ?_)
  refine wpAny_newFunctionEnv_cells S.kind hkind fun env he s1 x => ?_
  subst he
  refine ⟨lim.keeps x.toInCall.keep, codeAny_func ?_⟩
  have I : Inv (cxOf (fun _ _ _ _ _ _ => True) P w K mg base N qual scope a (.ref c) A outer s H (fun _ _ _ => False)) [] (L2.start N vs) H s1 := inv_start S hr.hd e0 hl r x
  obtain ⟨X, hX⟩ : ∃ X, X = cxOf (fun _ _ _ _ _ _ => True) P w K mg base N qual scope a (.ref c) A outer s H (fun _ _ _ => False) := ⟨_, rfl⟩
  have eA : A.deeper (envOfC qual scope s.heap.objs.size a (.ref c)) = X.A := by rw [hX]; rfl
  have eE : envOfC qual scope s.heap.objs.size a (.ref c) = X.env := by rw [hX]; rfl
  have eM : model P w = model X.prog X.w := by rw [hX]; rfl
  rw [← hX] at I
  have hsc : X.env.scope = scope := by rw [hX]; rfl
  have hN : X.N = N := by rw [hX]; rfl
  have hcode : X.env.code = .ref c := by rw [hX]; rfl
  have hqual : X.env.qual ++ nm = q := by rw [hX]; exact hq
  have TB' : TabB X.base X.mg c T := by rw [hX]; exact TB
  have hfre : ∀ y ∈ isc.names, y.2 = .free → X.env.scope.names.lookup y.1 = some .cell ∨ X.env.scope.names.lookup y.1 = some .free := by rw [hsc]; exact ndef_free hnd
  have hfree : ∀ y ∈ isc.names, y.2 = .free → ∃ c, X.env.cells.lookup y.1 = some c := fun y hy e => (hfre y hy e).elim (fun z => I.ok.has _ (.inl z)) fun z => I.ok.has _ (.inr z)
  have hx : Loc X.env.scope nm := by rw [hsc]; exact hloc
  have hqn : qualnameIn X.env nm nm = q := by
    have hk : X.env.kindOf nm = some .local ∨ X.env.kindOf nm = some .cell := hx
    unfold qualnameIn
    rcases hk with k | k <;> rw [k] <;> first | exact hqual | exact (if_neg (by decide)).trans hqual
  show wpAny (model P w) (A.deeper (envOfC qual scope s.heap.objs.size a (.ref c))) (execs _ (envOfC qual scope s.heap.objs.size a (.ref c))) _ _ s1
  rw [eA, eE, eM]
  refine wpAny_execs_cons (PySem.W.nestDef_K hd0 hk0 (han _) ?_)
  rw [hqn]
  refine def_free I TB' hcode hT hfree fun f c' doc pm ctv H1 s2 I1 hf hn hfs tu => ?_
  have stk : X.stack = X.env :: outer := by rw [hX]; rfl
  have frm : X.env.frame = some X.env.locals := by rw [hX]; rfl
  have out : X.outer = outer := by rw [hX]; rfl
  have fne : f ≠ X.env.locals ∧ f ∉ frs outer := by
    rw [stk] at hfs
    unfold frs at hfs
    rw [List.filterMap_cons, frm] at hfs
    exact ⟨fun z => hfs (by rw [z]; exact List.mem_cons_self), fun z => hfs (List.mem_cons_of_mem _ z)⟩
  have I1' : Inv X [(f, (⟨.type "function", none, .func (cloFd nm q ip (.stmts ib) isc (cloFrom X.env.cells isc.names []) c' doc pm ctv), #[]⟩ : Obj))] (L2.start N vs) H1 s2 :=
    ⟨I1.ok, I1.os, I1.bare, I1.base, I1.loc, I1.cell, I1.free, I1.freeC, fun p hp => by
      rcases List.mem_append.mp hp with z | z
      · exact I1.pin p (List.mem_append_left _ z)
      · cases List.mem_singleton.mp z
        exact ⟨hf, hn, fne.1, by show f ∉ frs X.outer; rw [out]; exact fne.2, fun v => by intro z; cases z⟩, I1.hok, I1.len⟩
  have hi' : X.N[i]? = some nm := by rw [hN]; exact hi
  have hfn : X.fn nm = true := by rw [hX]; rfl
  refine store_ok I1' (by rw [hN]; exact S.nd) hi' hx (v := .ref f) rfl (fun s3 J => ?_) (.inl hfn)
  show wpAny _ _ (execs [Stmt.Return _ _] X.env) _ _ s3
  refine wpAny_execs_cons (wpAny_Return_some ?_)
  have hs : (((L2.start N vs).set i (some (V.ref f))) : L2.St)[i]? = some (some (.ref f)) := by
    rw [List.getElem?_set_self]
    have := J.len
    rw [List.length_set] at this
    rw [this]
    exact lt_of_get hi'
  obtain ⟨m, hns, hlk⟩ := J.loc
  obtain ⟨u, ru, look⟩ := hlk i nm (.ref f) hi' hs (hx.elim .inl fun z => .inr (.inl z))
  cases ru
  have fin : ∃ f', (Except.ok (Flow.ret (Value.ref f)) : Result) = .ok (.ret (.ref f')) ∧ MkEnd P w outer H s nm q ip ib isc T fr (js.map (NdefX.slotAt (L2.start N vs))) f' s3 := by
    obtain ⟨p1, p2, p3, p4, _⟩ := J.pin _ (List.mem_append_right _ List.mem_cons_self)
    have cp : Caps X (cloFrom X.env.cells isc.names []) fr js := Caps.made J.ok hfre (ndef_fr hnd) (by rw [hN]; exact hjs)
    have CA := cells_of J cp
    have es : js.map (NdefX.slotAt ((L2.start N vs).set i (some (V.ref f)))) = js.map (NdefX.slotAt (L2.start N vs)) := List.map_congr_left fun j hj => by
      unfold NdefX.slotAt
      rw [List.getElem?_set_ne (Ne.symm (hij j hj))]
    rw [es] at CA
    have b := J.base
    have os := J.os
    have hok := J.hok
    refine ⟨f, rfl, c', doc, pm, ctv, cloFrom X.env.cells isc.names [], H1, ?_, J.bare, ?_, ?_, p1, p2, fne.2, tu, CA, fun y cell e z => ?_⟩
    · rw [hX] at os; exact os
    · rw [hX] at b; exact b
    · rw [hX] at hok; exact hok
    · have e1 := cp.sub y cell e
      have h1 := J.ok.cab y cell (by rw [hX]; rfl) e1
      obtain ⟨_, o, ho, _⟩ := J.ok.funs.mem (show cell ∈ frs X.outer from by rw [out]; exact z)
      exact absurd (Nat.lt_of_lt_of_le (Heap.lt_size ho) h1) (Nat.lt_irrefl _)
  rcases look with ⟨hk, hm⟩ | ⟨hk, cc, hcc, hcell⟩
  · exact wpAny_Name (wpAny_loadName_local J.ok.kind hk hns hm fin) hdb
  · rcases hk with hk | hk
    · exact wpAny_Name (wpAny_loadName_cell J.ok.kind hk hcc hcell fin) hdb
    · exact wpAny_Name (wpAny_loadName_free J.ok.kind hk hcc hcell fin hcl) hdb
end AM
end

section
set_option linter.all false
set_option maxRecDepth 100000
set_option maxHeartbeats 4000000
/-! AM, fifth part: expressions are sound. -/
namespace AM
open PySem L2

theorem _root_.L2.PE.weak {X : Cx} {e : Expr} {t t' : TE} (h : PE X e t) (w : ∀ σ H Q, t' σ H Q → t σ H Q) : PE X e t' := ⟨fun pins s σ H Q I q => h.run pins s σ H Q I (w _ _ _ q)⟩
theorem _root_.L2.PT.weak {X : Cx} {e : Expr} {t t' : TT} (h : PT X e t) (w : ∀ σ H Q, t' σ H Q → t σ H Q) : PT X e t' := ⟨fun pins s σ H Q I q => h.run pins s σ H Q I (w _ _ _ q)⟩
theorem _root_.L2.PW.weak {X : Cx} {e : Expr} {t t' : TT} (h : PW X e t) (w : ∀ σ H Q, t' σ H Q → t σ H Q) : PW X e t' := ⟨fun wh pins s σ H Q I q => h.run wh pins s σ H Q I (w _ _ _ q)⟩
theorem _root_.L2.PA.weak {X : Cx} {e : List Expr} {t t' : TA} (h : PA X e t) (w : ∀ σ H Q, t' σ H Q → t σ H Q) : PA X e t' := ⟨fun pos pins s σ H Q I q => h.run pos pins s σ H Q I (w _ _ _ q)⟩

section
variable (K : PySem.W.Frag) (cA : Str → Addr)
def post (F : Hp) (β : List Addr) (Q : VK) : PV := fun v S' => ∀ F' β' H' x, Ext F β F' β' → Sim K cA F' β' S' H' → VR K F' β' v x → Q x H'
def postL (F : Hp) (β : List Addr) (Q : List V → Hp → Prop) : PL := fun v S' => ∀ F' β' H' x, Ext F β F' β' → Sim K cA F' β' S' H' → VRs K F' β' v x → Q x H'
def postB (F : Hp) (β : List Addr) (Q : Bool → Hp → Prop) : Bool → Sto → Prop := fun v S' => ∀ F' β' H', Ext F β F' β' → Sim K cA F' β' S' H' → Q v H'
def postX (F : Hp) (β : List Addr) (Wx : WX) (σ : St) : PX := fun c S' => ∀ F' β' H', Ext F β F' β' → Sim K cA F' β' S' H' → Wx (.ref (cA c)) none σ H'
def liftE (Wx : WX) (w : Env → Sto → PV → PX → Prop) : TE := fun σ H Q => ∃ F β Γ S, Sim K cA F β S H ∧ EnvR K F β Γ σ ∧ w Γ S (post K cA F β Q) (postX K cA F β Wx σ)
def liftL (Wx : WX) (w : Env → Sto → PL → PX → Prop) : TA := fun σ H Q => ∃ F β Γ S, Sim K cA F β S H ∧ EnvR K F β Γ σ ∧ w Γ S (postL K cA F β Q) (postX K cA F β Wx σ)
def liftT (Wx : WX) (w : Env → Sto → (Bool → Sto → Prop) → PX → Prop) : TT := fun σ H Q => ∃ F β Γ S, Sim K cA F β S H ∧ EnvR K F β Γ σ ∧ w Γ S (postB K cA F β Q) (postX K cA F β Wx σ)
end

section
variable (K : PySem.W.Frag) (cA : Str → Addr)
/-- an iterator over xs, while G stands -/
structure ItOk (F : Hp) (β : List Addr) (J : L2.It) (xs : List Va) (G : Sto → Prop) : Prop where
  go : ∀ F' β' S H i, Ext F β F' β' → Sim K cA F' β' S H → G S → i < xs.length → J.go i H
  stop : ∀ F' β' S H, Ext F β F' β' → Sim K cA F' β' S H → G S → J.stop xs.length H
  yld : ∀ F' β' S H i x H', Ext F β F' β' → Sim K cA F' β' S H → G S → i < xs.length → J.yld i H x H' → ∃ F2 v, xs[i]? = some v ∧ Ext F' β' F2 β' ∧ Sim K cA F2 β' S H' ∧ VR K F2 β' v x
def postI (F : Hp) (β : List Addr) (R : L2.It → Hp → Prop) : PI_ := fun xs G S' => ∀ F' β' H' J, Ext F β F' β' → Sim K cA F' β' S' H' → ItOk K cA F' β' J xs G → R J H'
def postO (F : Hp) (β : List Addr) (Q : Option Int → Hp → Prop) : Option Int → Sto → Prop := fun o S' => ∀ F' β' H', Ext F β F' β' → Sim K cA F' β' S' H' → Q o H'
def liftI (Wx : WX) (w : Env → Sto → PI_ → PX → Prop) : TI := fun σ H R => ∃ F β Γ S, Sim K cA F β S H ∧ EnvR K F β Γ σ ∧ w Γ S (postI K cA F β R) (postX K cA F β Wx σ)
def liftO (Wx : WX) (w : Env → Sto → (Option Int → Sto → Prop) → PX → Prop) : TO := fun σ H R => ∃ F β Γ S, Sim K cA F β S H ∧ EnvR K F β Γ σ ∧ w Γ S (postO K cA F β R) (postX K cA F β Wx σ)
end
theorem _root_.L2.PI.weak {X : Cx} {tg e : Expr} {t t' : TI} (h : PI X tg e t) (w : ∀ σ H Q, t' σ H Q → t σ H Q) : PI X tg e t' := ⟨fun pins s σ H Q I q => h.run pins s σ H Q I (w _ _ _ q)⟩
theorem _root_.L2.PO.weak {X : Cx} {e : Option Expr} {t t' : TO} (h : PO X e t) (w : ∀ σ H Q, t' σ H Q → t σ H Q) : PO X e t' := ⟨fun pins s σ H Q I q => h.run pins s σ H Q I (w _ _ _ q)⟩
theorem _root_.L2.PG.weak {X : Cx} {e : Expr} {t t' : TG} (h : PG X e t) (w : ∀ v σ H Q, t' v σ H Q → t v σ H Q) : PG X e t' := ⟨fun pins s σ H v u Q I r q => h.run pins s σ H v u Q I r (w _ _ _ _ q)⟩
theorem _root_.L2.PGs.weak {X : Cx} {e : List Expr} {t t' : TGs} (h : PGs X e t) (w : ∀ v σ H Q, t' v σ H Q → t v σ H Q) : PGs X e t' := ⟨fun pins s σ H v u Q I r q => h.run pins s σ H v u Q I r (w _ _ _ _ q)⟩
theorem _root_.L2.PG.or {X : Cx} {e : Expr} {t t' : TG} (h : PG X e t) (h' : PG X e t') : PG X e (fun v σ H Q => t v σ H Q ∨ t' v σ H Q) := ⟨fun pins s σ H v u Q I r q => q.elim (fun q => h.run pins s σ H v u Q I r q) fun q => h'.run pins s σ H v u Q I r q⟩
theorem _root_.L2.PTs.weak {X : Cx} {e : List Expr} {t t' : TT} (h : PTs X e t) (w : ∀ σ H Q, t' σ H Q → t σ H Q) : PTs X e t' := ⟨fun pins s σ H Q I q => h.run pins s σ H Q I (w _ _ _ q)⟩

/-- a def's promise -/
def spI (K : PySem.W.Frag) (cA : Str → Addr) (C : Orc) (f : Str) : Sp := fun vs H Q E => ∃ F β S as, Sim K cA F β S H ∧ VRs K F β as vs ∧
  C.run f as S (post K cA F β Q) (fun c S' => ∀ F' β' H', Ext F β F' β' → Sim K cA F' β' S' H' → E (.ref (cA c)) none H')

def bltNames : List Str := ["len", "abs", "isinstance", "int", "bool", "str", "tuple", "list", "dict", "range", "max", "min", "sum", "sorted", "reversed", "enumerate", "zip", "all", "any", "ord"]

theorem vis_of {sc : Scope} {x : Str} (h : visB sc x = true) : Vis sc x := by
  have h1 := (Bool.and_eq_true_iff.mp (Bool.and_eq_true_iff.mp h).1).1
  unfold Vis
  split at h1
  · exact .inl (by assumption)
  · exact .inr (.inl (by assumption))
  · exact .inr (.inr (by assumption))
  · cases h1
theorem loc_of {sc : Scope} {x : Str} (h : locB sc x = true) : sc.names.lookup x = some .local ∨ sc.names.lookup x = some .cell := by
  unfold locB at h
  split at h
  · exact .inl (by assumption)
  · exact .inr (by assumption)
  · cases h
theorem gl_of {sc : Scope} {x : Str} (h : glB sc x = true) : sc.names.lookup x = some .globalImplicit := by
  have h1 := (Bool.and_eq_true_iff.mp (Bool.and_eq_true_iff.mp h).1).1
  split at h1
  · assumption
  · cases h1
/-- an own class, as isinstance asks it -/
def IsaOk (K : PySem.W.Frag) (C : Addr) : Prop := Cls K C ∧ PySem.W.findIn K (.ref C) "__class__" = some (some (.builtin "object.__class__")) ∧ PySem.W.specialIn K (.builtin "object.__class__") "__get__" = some (some (.builtin "getset_descriptor.__get__")) ∧
  PySem.W.takesIn K (.builtin "object.__class__") = some true ∧ PySem.W.mroIn K C (.type "object") = some true
/-- a written dict: what stands at some texts, there or not -/
def DctOk (w : World) (K : PySem.W.Frag) (mg : Str → Option Value) (p : Str × List (Str × Option Va)) : Prop := ∃ A es n, mg p.1 = some (.ref A) ∧ KDict K w A es n ∧ ∀ q ∈ p.2, ∃ r, PySem.W.nsIn K A q.1 = some r ∧
  match q.2 with
  | none => r = none
  | some v => ∃ u y, r = some u ∧ RelV y u ∧ ∀ F β, VR K F β v y
/-- a class that an except clause or an isinstance of an exception names -/
def XkOk (K : PySem.W.Frag) (mg : Str → Option Value) (cA : Str → Addr) (p : Str × Str × Bool) : Prop := ∃ v cv, ClsV v cv ∧ (mg p.2.1 = some cv ∨ (mg p.2.1 = none ∧ bootBuiltins p.2.1 = some cv ∧ p.2.1 ≠ "__name__")) ∧ ExcC K (cA p.1) ∧
  PySem.W.kitOne K (.ref (cA p.1)) cv = some p.2.2 ∧ PySem.W.exmOne K (.ref (cA p.1)) cv = some p.2.2
/-- a function made within a def, as the base tells it -/
def CloB (T : Tab) (xs fs : List Str) (base : Heap) (z : Clo) : Prop := ∃ (nm : Str) (params : Arguments) (bd : FuncBody) (scope : Scope) (cl : List (Str × Addr)) (fr : List Str) (d : Fn) (doc pm ctv : Value) (od : Option Addr) (sl : Array (Option Value)),
  T.fn z.id = some d ∧ ckN xs fs d params bd scope fr = true ∧ base.get? z.f = some (⟨.type "function", od, .func (cloFd nm z.q params bd scope cl z.c doc pm ctv), sl⟩ : Obj) ∧ CellsB cl fr z.xs base
/-- .. its call's promise -/
def CloOk (P : Program) (w : World) (K : PySem.W.Frag) (mg : Str → Option Value) (base : Heap) (cA : Str → Addr) (T : Tab) (k : Nat) (z : Clo) : Prop :=
  ∀ (A : Around) (outer : List PySem.Env) (s : Shared) (H : Hp) (us : List Value) (vs : List V) (Q : VK) (E : XK), Room (2 * k) A → Env0 P w K mg base A outer s H → H z.c = some (LamX.CodeO z.c z.q) → Vals vs us → spI K cA (orc T k) z.id (vs ++ z.xs) H Q E →
    codeAny (model P w) A (.call (.ref z.f) ⟨us, []⟩) (CR (L2.CX P w) outer P w H s Q E) s
/-- the defs' promises over a base -/
def FnsOk (P : Program) (w : World) (K : PySem.W.Frag) (mg : Str → Option Value) (base : Heap) (cA : Str → Addr) (T : Tab) (k : Nat) (fs : List Str) : Prop :=
  (∀ f ∈ fs, ∃ d a fd, T f = some d ∧ mg f = some (.ref a) ∧ PySem.W.keepIn K (.ref a) = true ∧ Binds K fd d.ps [] ∧ FnOk P w K mg base (L2.CX P w) (2 * k) a fd d.ps (spI K cA (orc T k) f)) ∧
  (∀ p ∈ T.mt, Cls K (cA p.1) ∧ ∃ d a fd, T.fn p.2.2 = some d ∧ Meth K (cA p.1) p.2.1 a ∧ Binds K fd d.ps [] ∧ FnOk P w K mg base (L2.CX P w) (2 * k) a fd d.ps (spI K cA (orc T k) p.2.2))
/-- one value by the name of the last parameter, all others written -/
def KB1 (K : PySem.W.Frag) (fd : FuncData) (ps : List Str) (x : Str) : Prop := ∀ (s : Shared) (us : List Value) (w : Value), K.In s.heap → us.length + 1 = ps.length → BindsTo s fd ⟨us, [(x, w)]⟩ (ps.zip (us ++ [w]))
/-- a def whose last parameter has the default None -/
def DflOk (K : PySem.W.Frag) (fd : FuncData) (ps : List Str) (x : Str) : Prop := (∃ ds, Vals [V.non] ds ∧ Binds K fd ps ds) ∧ KB1 K fd ps x
/-- a def that makes a function: its call, as the machine runs it -/
def MkOk (P : Program) (w : World) (K : PySem.W.Frag) (mg : Str → Option Value) (base : Heap) (cA : Str → Addr) (T : Tab) (xs fs : List Str) (f id q : Str) (js : List Nat) (n : Nat) : Prop :=
  ∃ (a : Addr) (nm : Str) (ip : Arguments) (ib : List Stmt) (isc : Scope) (fr N : List Str) (d2 : Fn), mg f = some (.ref a) ∧ PySem.W.keepIn K (.ref a) = true ∧ T.fn id = some d2 ∧ ckN xs fs d2 ip (.stmts ib) isc fr = true ∧
    ∀ (A : Around) (outer : List PySem.Env) (s : Shared) (H : Hp) (us : List Value) (vs : List V), Room 1 A → Env0 P w K mg base A outer s H → Vals vs us → vs.length = n → LamX.TabS H (cA q) q →
      codeAny (model P w) A (.call (.ref a) ⟨us, []⟩) (fun r s' => ∃ g, r = .ok (.ret (.ref g)) ∧ MkEnd P w outer H s nm q ip ib isc (cA q) fr (js.map (NdefX.slotAt (L2.start N vs))) g s') s
structure Gd (c : Ctx) (cA : Str → Addr) (T : Tab) (k : Nat) (cur : Option (Addr × Str)) (Wx : WX) (X : Cx) : Prop where
  hN : X.N = c.N
  nd : X.N.Nodup
  sc : X.env.scope = c.sc
  kind : c.sc.kind = .function
  loc : ∀ x, c.lc x = true → Loc X.env.scope x ∧ (X.fn x = true ∨ X.env.scope.names.lookup x = some .local)
  calm : c.hot = false → X.calm = true
  room : c.hot = false → Room (2 * k + 1) X.A
  un : X.A.units + 65 < cLine
  tk : Takes X Wx
  pass : c.hot = false → PassesOwn (model X.prog X.w) X.A X.env X.xe
  nc : c.hot = false → cur = none
  curok : ∀ a x, cur = some (a, x) → ∃ oe, (a, oe) ∈ X.pn ∧ Zc (.ref (cA x)) none oe ∧ ∃ vs, oe.data = .fields vs
  xk : ∀ p ∈ T.xk, XkOk X.K X.mg cA p
  blt : ∀ x ∈ bltNames, X.mg x = none
  fn : ∀ f ∈ c.fs, ∃ d a fd, T f = some d ∧ X.mg f = some (.ref a) ∧ PySem.W.keepIn X.K (.ref a) = true ∧ Binds X.K fd d.ps [] ∧ FnOk X.prog X.w X.K X.mg X.base (L2.CX X.prog X.w) (2 * k) a fd d.ps (spI X.K cA (orc T k) f)
  exc : ∀ x ∈ c.xs, X.mg x = some (.ref (cA x)) ∧ PySem.W.excIn X.K (cA x) [.type "ValueError", .type "Exception", .type "BaseException", .type "object"] "ValueError.__new__" = true ∧ PySem.W.keepIn X.K (.ref (cA x)) = true ∧ Raises X (.ref (cA x))
  glo : ∀ p ∈ T.gb, ∃ u y, X.mg p.1 = some u ∧ RelV y u ∧ ∀ F β, VR X.K F β p.2 y
  noat : ∀ p ∈ T.na, Cls X.K (cA p.1) ∧ NoAttr X.K (cA p.1) p.2
  meth : ∀ p ∈ T.mt, Cls X.K (cA p.1) ∧ ∃ d a fd, T.fn p.2.2 = some d ∧ Meth X.K (cA p.1) p.2.1 a ∧ Binds X.K fd d.ps [] ∧ FnOk X.prog X.w X.K X.mg X.base (L2.CX X.prog X.w) (2 * k) a fd d.ps (spI X.K cA (orc T k) p.2.2)
  init : ∀ p ∈ T.it, X.mg p.1 = some (.ref (cA p.1)) ∧ PySem.W.keepIn X.K (.ref (cA p.1)) = true ∧ match p.2 with
    | none => PySem.W.makesIn X.K (cA p.1) = true ∧ PySem.W.findIn X.K (.ref (cA p.1)) "__init__" = some (some (.builtin "object.__init__")) ∧ PySem.W.mroIn X.K (cA p.1) (.type "object") = some true
    | some key => ∃ d a fd, T.fn key = some d ∧ Mk X.K (cA p.1) a ∧ Binds X.K fd d.ps [] ∧ FnOk X.prog X.w X.K X.mg X.base (L2.CX X.prog X.w) (2 * k) a fd d.ps (spI X.K cA (orc T k) key)
  isa : ∀ p ∈ T.ia, X.mg p.2.1 = some (.ref (cA p.2.1)) ∧ IsaOk X.K (cA p.1) ∧ PySem.W.kitOne X.K (.ref (cA p.1)) (.ref (cA p.2.1)) = some p.2.2
  gdc : ∀ p ∈ T.gd, DctOk X.w X.K X.mg p
  dfl : ∀ p ∈ T.df, ∃ d a fd, T p.1 = some d ∧ X.mg p.1 = some (.ref a) ∧ PySem.W.keepIn X.K (.ref a) = true ∧ DflOk X.K fd d.ps p.2 ∧ FnOk X.prog X.w X.K X.mg X.base (L2.CX X.prog X.w) (2 * k) a fd d.ps (spI X.K cA (orc T k) p.1)
  mkr : ∀ f ∈ c.fs, ∀ id q js n, T.mkf f = some (id, q, js, n) → MkOk X.prog X.w X.K X.mg X.base cA T c.xs c.fs f id q js n
  lam : ∀ q ∈ c.lm, X.env.qual ++ q.1 = q.2 ∧ ∃ cc, X.env.code = .ref cc ∧ LamX.TabB X.base X.mg cc (cA q.2)
  fnall : c.lm ≠ [] → ∀ x, X.fn x = true
  ndk : ∀ id params bd scope fr, c.nd id params bd scope fr = true → ∃ d, T.fn id = some d ∧ ckN c.xs c.fs d params bd scope fr = true
  clo : ∀ z ∈ T.cl, PySem.W.FnAt z.f X.base ∧ CloOk X.prog X.w X.K X.mg X.base cA T k z
  up : ∀ (base : Heap) (z : Clo), (∀ b o, X.base.get? b = some o → base.get? b = some o) → CloB T c.xs c.fs base z → FnsOk X.prog X.w X.K X.mg base cA (T.add z) k c.fs
theorem Gd.vis {c : Ctx} {cA : Str → Addr} {T : Tab} {k : Nat} {cur : Option (Addr × Str)} {Wx : WX} {X : Cx} (g : Gd c cA T k cur Wx X) (x : Str) (h : visB c.sc x = true) : Vis X.env.scope x := by
  rw [g.sc]; exact vis_of h
theorem Gd.gl {c : Ctx} {cA : Str → Addr} {T : Tab} {k : Nat} {cur : Option (Addr × Str)} {Wx : WX} {X : Cx} (g : Gd c cA T k cur Wx X) (x : Str) (h : glB c.sc x = true) : Gl X x := by
  show X.env.scope.names.lookup x = _
  rw [g.sc]; exact gl_of h
theorem rel_lk {sc : Scope} {x : Str} {k : NameKind} : ∀ {l : List (Str × NameKind)}, l.lookup x = some k → (l.map fun (n, k) => if (k == NameKind.free && sc.kind == .function && sc.names.lookup n == some .cell) then (n, NameKind.cell) else (n, k)).lookup x = some (if (k == NameKind.free && sc.kind == .function && sc.names.lookup x == some .cell) then NameKind.cell else k)
  | [], h => by simp at h
  | (n, j) :: r, h => by
    have ih := @rel_lk sc x k r
    show List.lookup x ((if (j == NameKind.free && sc.kind == .function && sc.names.lookup n == some .cell) = true then (n, NameKind.cell) else (n, j)) :: _) = _
    cases hx : x == n with
    | true =>
      have e : x = n := by simpa using hx
      subst e
      rw [List.lookup_cons, hx] at h
      cases h
      by_cases hc : (k == NameKind.free && sc.kind == .function && sc.names.lookup x == some .cell) = true
      · rw [if_pos hc, if_pos hc, List.lookup_cons, hx]
      · rw [if_neg hc, if_neg hc, List.lookup_cons, hx]
    | false =>
      rw [List.lookup_cons, hx] at h
      by_cases hc : (j == NameKind.free && sc.kind == .function && sc.names.lookup n == some .cell) = true
      · rw [if_pos hc, List.lookup_cons, hx]; exact ih h
      · rw [if_neg hc, List.lookup_cons, hx]; exact ih h
theorem Gd.inn {c : Ctx} {cA : Str → Addr} {T : Tab} {k : Nat} {cur : Option (Addr × Str)} {Wx : WX} {X : Cx} (g : Gd c cA T k cur Wx X) {scope : Scope} (hk : scope.kind = .function) (s : Shared) (H : Hp) (C : Addr) (cl : List (Str × Addr)) (fp : List Addr) (hh : c.hot = false) :
    Gd (c.inn scope) cA T k cur (fun _ _ _ _ => False) (X.blk s H scope (compEnvC scope cl C X.env) fp) where
  hN := g.hN
  nd := g.nd
  sc := by
    show relS scope X.env.scope = relS scope c.sc
    rw [g.sc]
  kind := hk
  loc := fun x h => by
    have h1 : locB scope x = true := h
    have hz : ∀ k, k ≠ NameKind.free → scope.names.lookup x = some k → (relS scope X.env.scope).names.lookup x = some k := fun k hk e => by
      have e1 := rel_lk (sc := X.env.scope) e
      have e2 : (k == NameKind.free) = false := by cases k <;> first | rfl | exact absurd rfl hk
      rw [e2] at e1
      exact e1
    rcases loc_of h1 with e | e
    · exact ⟨.inl (hz _ (by decide) e), .inr (hz _ (by decide) e)⟩
    · refine ⟨.inr (hz _ (by decide) e), .inl ?_⟩
      show (scope.names.lookup x == some .cell) = true
      rw [e]; rfl
  calm := g.calm
  room := g.room
  un := g.un
  nc := g.nc
  curok := fun a x e => by rw [g.nc hh] at e; cases e
  xk := g.xk
  tk := by
    rintro u s' ⟨_, _, _, _, _, _, _, _, _, _, _, _, _, _, _, _, z⟩
    exact z.elim
  pass := fun _ => PassesOwn.never
  blt := g.blt
  fn := g.fn
  exc := g.exc
  glo := g.glo
  noat := g.noat
  meth := g.meth
  isa := g.isa
  gdc := g.gdc
  dfl := g.dfl
  mkr := g.mkr
  init := g.init
  lam := fun q hq => by cases (show q ∈ ([] : List (Str × Str)) from hq)
  fnall := fun h => absurd rfl h
  ndk := fun _ _ _ _ _ h => by cases h
  clo := g.clo
  up := g.up

section
variable {K : PySem.W.Frag} {cA : Str → Addr} {F F' : Hp} {β β' : List Addr}
theorem post_ext {Q : VK} (e : Ext F β F' β') {v : Va} {S : Sto} (h : post K cA F β Q v S) : post K cA F' β' Q v S := fun F2 β2 H2 x e2 s r => h F2 β2 H2 x (e.trans e2) s r
theorem postX_ext {Wx : WX} {σ : St} (e : Ext F β F' β') : ∀ (c : Str) (S : Sto), postX K cA F β Wx σ c S → postX K cA F' β' Wx σ c S := fun c S h F2 β2 H2 e2 s => h F2 β2 H2 (e.trans e2) s
theorem EnvR.ext {Γ : Env} {σ : St} (e : Ext F β F' β') (h : EnvR K F β Γ σ) : EnvR K F' β' Γ σ := EnvR.mono e.sub e.pre Γ σ h
theorem VR.ext {v : Va} {x : V} (e : Ext F β F' β') (h : VR K F β v x) : VR K F' β' v x := VR.mono e.sub e.pre v x h
theorem VRs.ext {v : List Va} {x : List V} (e : Ext F β F' β') (h : VRs K F β v x) : VRs K F' β' v x := VRs.mono e.sub e.pre v x h
theorem VRk.ext {v : List (Key × Va)} {x : List (Key × V)} (e : Ext F β F' β') (h : VRk K F β v x) : VRk K F' β' v x := VRk.mono e.sub e.pre v x h
theorem ext_drop {a : Addr} (fa : F a = none) (e : Ext F β F' β') : Ext F β (dropF F' a) β' := ⟨fun b o z => by
  have hb : b ≠ a := fun w => by subst w; rw [fa] at z; cases z
  show (if b = a then none else F' b) = _
  rw [if_neg hb]
  exact e.sub b o z, e.pre⟩
theorem post_here {Q : VK} {v : Va} {S : Sto} {H : Hp} {x : V} (s : Sim K cA F β S H) (r : VR K F β v x) (h : post K cA F β Q v S) : Q x H := h F β H x (Ext.refl F β) s r
end

section
variable {K : PySem.W.Frag} {cA : Str → Addr} {C : Orc} (hC : OrcMono C) {F : Hp} {β : List Addr} {S : Sto} {H : Hp} {Γ : Env} {σ : St} {Wx : WX}
include hC
theorem runE {m : Ex} {R : PV} {E0 : PX} {Q1 : VK} (s : Sim K cA F β S H) (g : EnvR K F β Γ σ) (w : W C m Γ S R E0) (hE : ∀ c S, E0 c S → postX K cA F β Wx σ c S)
    (h : ∀ F' β' S1 H1 v x, Ext F β F' β' → Sim K cA F' β' S1 H1 → VR K F' β' v x → R v S1 → Q1 x H1) : liftE K cA Wx (W C m) σ H Q1 :=
  ⟨F, β, Γ, S, s, g, W_mono hC m _ _ _ _ _ _ (fun v S1 r F' β' H' x e s' vr => h F' β' S1 H' v x e s' vr r) hE w⟩
theorem runB {m : Te} {R : PV} {E0 : PX} {Q1 : VK} (s : Sim K cA F β S H) (g : EnvR K F β Γ σ) (w : WB C m Γ S R E0) (hE : ∀ c S, E0 c S → postX K cA F β Wx σ c S)
    (h : ∀ F' β' S1 H1 v x, Ext F β F' β' → Sim K cA F' β' S1 H1 → VR K F' β' v x → R v S1 → Q1 x H1) : liftE K cA Wx (WB C m) σ H Q1 :=
  ⟨F, β, Γ, S, s, g, WB_mono hC m _ _ _ _ _ _ (fun v S1 r F' β' H' x e s' vr => h F' β' S1 H' v x e s' vr r) hE w⟩
theorem runT {m : Te} {R : Bool → Sto → Prop} {E0 : PX} {Q1 : Bool → Hp → Prop} (s : Sim K cA F β S H) (g : EnvR K F β Γ σ) (w : WT C m Γ S R E0) (hE : ∀ c S, E0 c S → postX K cA F β Wx σ c S)
    (h : ∀ F' β' S1 H1 v, Ext F β F' β' → Sim K cA F' β' S1 H1 → R v S1 → Q1 v H1) : liftT K cA Wx (WT C m) σ H Q1 :=
  ⟨F, β, Γ, S, s, g, WT_mono hC m _ _ _ _ _ _ (fun v S1 r F' β' H' e s' => h F' β' S1 H' v e s' r) hE w⟩
theorem runL {m : Exs} {R : PL} {E0 : PX} {Q1 : List V → Hp → Prop} (s : Sim K cA F β S H) (g : EnvR K F β Γ σ) (w : WL C m Γ S R E0) (hE : ∀ c S, E0 c S → postX K cA F β Wx σ c S)
    (h : ∀ F' β' S1 H1 v x, Ext F β F' β' → Sim K cA F' β' S1 H1 → VRs K F' β' v x → R v S1 → Q1 x H1) : liftL K cA Wx (WL C m) σ H Q1 :=
  ⟨F, β, Γ, S, s, g, WL_mono hC m _ _ _ _ _ _ (fun v S1 r F' β' H' x e s' vr => h F' β' S1 H' v x e s' vr r) hE w⟩
end

section
variable {K : PySem.W.Frag} {cA : Str → Addr} {C : Orc} (hC : OrcMono C) {F : Hp} {β : List Addr} {S : Sto} {H : Hp} {Γ : Env} {σ : St} {Wx : WX}
include hC
theorem runO {m : Oe} {R : Option Int → Sto → Prop} {E0 : PX} {Q1 : Option Int → Hp → Prop} (s : Sim K cA F β S H) (g : EnvR K F β Γ σ) (w : WOe C m Γ S R E0) (hE : ∀ c S, E0 c S → postX K cA F β Wx σ c S)
    (h : ∀ F' β' S1 H1 v, Ext F β F' β' → Sim K cA F' β' S1 H1 → R v S1 → Q1 v H1) : liftO K cA Wx (WOe C m) σ H Q1 :=
  ⟨F, β, Γ, S, s, g, WOe_mono hC m _ _ _ _ _ _ (fun v S1 r F' β' H' e s' => h F' β' S1 H' v e s' r) hE w⟩
theorem runI {m : It} {R : PI_} {E0 : PX} {Q1 : L2.It → Hp → Prop} (s : Sim K cA F β S H) (g : EnvR K F β Γ σ) (w : WI C m Γ S R E0) (hE : ∀ c S, E0 c S → postX K cA F β Wx σ c S)
    (h : ∀ F' β' S1 H1 J xs G, Ext F β F' β' → Sim K cA F' β' S1 H1 → ItOk K cA F' β' J xs G → R xs G S1 → Q1 J H1) : liftI K cA Wx (WI C m) σ H Q1 :=
  ⟨F, β, Γ, S, s, g, WI_mono hC m _ _ _ _ _ _ (fun xs G S1 r F' β' H' J e s' i => h F' β' S1 H' J xs G e s' i r) hE w⟩
end

/-! ### what is laid anew, read -/
section
variable {K : PySem.W.Frag} {cA : Str → Addr} {F : Hp} {β : List Addr} {S : Sto} {H : Hp} {Q : VK}
theorem post_new {xs : List Va} {ys : List V} (s : Sim K cA F β S H) (r : VRs K F β xs ys) (h : post K cA F β Q (.loc S.length) (S ++ [.lst xs])) : ∀ p, H p = none → Q (.ref p) (upd H p (.lst ys)) := fun p hp => by
  have s2 := s.new hp (o := .lst xs) (u := .lst ys) ⟨ys, upd_same, VRs.mono (Same.refl _) (List.prefix_append _ _) _ _ r⟩
  refine h _ _ _ _ ⟨Same.refl _, List.prefix_append _ _⟩ s2 ⟨p, rfl, ?_⟩
  rw [← s.len]; simp
theorem post_tup {xs : List Va} {ys : List V} (s : Sim K cA F β S H) (r : VRs K F β xs ys) (h : post K cA F β Q (.tup xs) S) : ∀ p, H p = none → Q (.ref p) (upd H p (.tup ys)) := fun p hp => by
  obtain ⟨s2, sb⟩ := s.lay hp (.tup ys)
  exact h _ _ _ _ ⟨sb, List.prefix_refl _⟩ s2 ⟨p, ys, rfl, SqT.of upd_same, VRs.mono sb (List.prefix_refl _) _ _ r⟩
theorem VRs.rep {K : PySem.W.Frag} {F : Hp} {β : List Addr} {xs : List Va} {ys : List V} (h : VRs K F β xs ys) : ∀ n : Nat, VRs K F β (List.replicate n xs).flatten (List.replicate n ys).flatten
  | 0 => rfl
  | n + 1 => by
    rw [List.replicate_succ, List.flatten_cons, List.replicate_succ, List.flatten_cons]
    exact h.append (VRs.rep h n)
theorem LV.ok {v : Va} {x : V} {xs : List Va} (s : Sim K cA F β S H) (h : LV S v xs) (r : VR K F β v x) : ∃ a ys, x = .ref a ∧ H a = some (.lst ys) ∧ VRs K F β xs ys := by
  rcases h with rfl | ⟨k, rfl, hk⟩
  · obtain ⟨a, ys, rfl, t, q⟩ := r
    exact ⟨a, ys, rfl, s.sub _ _ t, q⟩
  · obtain ⟨a, rfl, t⟩ := r
    obtain ⟨b, e1, _, ys, e2, q⟩ := s.at hk
    rw [t] at e1
    cases (Option.some.inj e1)
    exact ⟨a, ys, rfl, e2, q⟩
theorem flat_ok {v : Va} {x : V} (h : flat v = true) (r : VR K F β v x) : flatV x = true := by
  cases v <;> first | (cases r; rfl) | cases h
theorem flats_ok : ∀ {xs : List Va} {ys : List V}, xs.all flat = true → VRs K F β xs ys → ys.all flatV = true
  | [], _, _, r => by cases (show _ = [] from r); rfl
  | x :: xs, _, h, ⟨y, t, e, q, qs⟩ => by
    subst e
    rw [List.all_cons, Bool.and_eq_true] at h ⊢
    exact ⟨flat_ok h.1 q, flats_ok h.2 qs⟩
theorem eqW_ok {v u : Va} {x y : V} (h1 : flat v = true) (h2 : flat u = true) (r1 : VR K F β v x) (r2 : VR K F β u y) : eqV x y = eqW v u := by
  cases v <;> cases u <;> first | exact (Bool.false_ne_true h1).elim | exact (Bool.false_ne_true h2).elim | (cases r1; cases r2; rfl)
theorem inW_ok {u : Va} {y : V} (h2 : flat u = true) (r2 : VR K F β u y) : ∀ {xs : List Va} {ys : List V}, xs.all flat = true → VRs K F β xs ys → inV y ys = xs.any fun z => eqW z u
  | [], _, _, r => by cases (show _ = [] from r); rfl
  | x :: xs, _, h, ⟨z, t, e, q, qs⟩ => by
    subst e
    rw [List.all_cons, Bool.and_eq_true] at h
    have ih := inW_ok h2 r2 h.2 qs
    unfold inV at ih ⊢
    rw [List.any_cons, List.any_cons, ih, eqW_ok h.1 h2 q r2]
theorem str1 {x : Str} (h : x.length = 1) : x = ⟨#[x.cps.getD 0 0]⟩ := by
  obtain ⟨⟨l⟩⟩ := x
  match l, h with
  | [c], _ => rfl
end

/-! ### dicts, objects -/
theorem kV_keyV {K : PySem.W.Frag} {F : Hp} {β : List Addr} {v : Va} {x : V} {k : Key} (h : keyV v = some k) (r : VR K F β v x) : x = kV k := by
  cases v <;> first | (cases h; done) | (cases h; exact r)
theorem keyA_ok {K : PySem.W.Frag} {F : Hp} {β : List Addr} (k : Key) : VR K F β (keyA k) (kV k) := by
  cases k <;> rfl
section
variable {K : PySem.W.Frag} {cA : Str → Addr} {F : Hp} {β : List Addr} {S : Sto} {H : Hp} {Q : VK}
theorem dget_cons {k' k : Key} {v : Va} {r : List (Key × Va)} : dget ((k', v) :: r) k = if k' = k then some v else dget r k := by
  unfold dget
  by_cases h : k' = k
  · rw [List.find?_cons, if_pos h]; simp [h]
  · rw [List.find?_cons, if_neg h]; simp [h]
theorem VRk.val : ∀ {kvs : List (Key × Va)} {ys : List (Key × V)} (k : Key), VRk K F β kvs ys → (∀ v, dget kvs k = some v → ∃ y, valV ys k = some y ∧ VR K F β v y) ∧ (dget kvs k = none → valV ys k = none)
  | [], _, k, h => by cases (show _ = [] from h); exact ⟨fun _ e => (by cases e), fun _ => rfl⟩
  | (k', v) :: r, _, k, ⟨y, t, e, q, qs⟩ => by
    subst e
    obtain ⟨i1, i2⟩ := VRk.val k qs
    rw [dget_cons]
    by_cases h : k' = k
    · rw [if_pos h, valV_pos (p := (k', y)) h]
      exact ⟨fun u e => by cases e; exact ⟨y, rfl, q⟩, fun e => by cases e⟩
    · rw [if_neg h, valV_neg (p := (k', y)) h]
      exact ⟨i1, i2⟩
theorem VRk.keys : ∀ {kvs : List (Key × Va)} {ys : List (Key × V)}, VRk K F β kvs ys → ys.map (·.1) = kvs.map (·.1)
  | [], _, h => by cases (show _ = [] from h); rfl
  | (k', v) :: r, _, ⟨y, t, e, q, qs⟩ => by subst e; simp [VRk.keys qs]
theorem VRk.len {kvs : List (Key × Va)} {ys : List (Key × V)} (h : VRk K F β kvs ys) : kvs.length = ys.length := by
  have := congrArg List.length h.keys
  simpa using this.symm
theorem VRk.app : ∀ {kvs : List (Key × Va)} {ys : List (Key × V)} {k : Key} {v : Va} {y : V}, VRk K F β kvs ys → VR K F β v y → VRk K F β (kvs ++ [(k, v)]) (ys ++ [(k, y)])
  | [], _, k, v, y, h, q => by cases (show _ = [] from h); exact ⟨y, [], rfl, q, rfl⟩
  | (k', u) :: r, _, k, v, y, ⟨z, t, e, q', qs⟩, q => by subst e; exact ⟨z, _, rfl, q', VRk.app qs q⟩
theorem VRk.mapP {k : Key} {v : Va} {y : V} (q : VR K F β v y) : ∀ {kvs : List (Key × Va)} {ys : List (Key × V)}, VRk K F β kvs ys → VRk K F β (kvs.map fun kv => if kv.1 = k then (kv.1, v) else kv) (ys.map fun kv => if kv.1 = k then (kv.1, y) else kv)
  | [], _, h => by cases (show _ = [] from h); rfl
  | (k', u) :: r, _, ⟨z, t, e, q', qs⟩ => by
    subst e
    by_cases h : k' = k
    · simp only [List.map_cons, if_pos h]; exact ⟨y, _, rfl, q, VRk.mapP q qs⟩
    · simp only [List.map_cons, if_neg h]; exact ⟨z, _, rfl, q', VRk.mapP q qs⟩
theorem VRk.put {k : Key} {v : Va} {y : V} {kvs : List (Key × Va)} {ys : List (Key × V)} (h : VRk K F β kvs ys) (q : VR K F β v y) : VRk K F β (dput kvs k v) (putK ys k y) := by
  have e : (ys.any fun kv => decide (kv.1 = k)) = kvs.any fun kv => decide (kv.1 = k) := by
    have e1 : (ys.map (·.1)).any (fun z => decide (z = k)) = (kvs.map (·.1)).any (fun z => decide (z = k)) := by rw [h.keys]
    simpa [List.any_map, Function.comp_def] using e1
  unfold dput putK
  rw [e]
  split
  · exact VRk.mapP q h
  · exact VRk.app h q
theorem VRk.drop {k : Key} : ∀ {kvs : List (Key × Va)} {ys : List (Key × V)}, VRk K F β kvs ys → VRk K F β (ddrop kvs k) (dropK ys k)
  | [], _, h => by cases (show _ = [] from h); rfl
  | (k', u) :: r, _, ⟨z, t, e, q', qs⟩ => by
    subst e
    have ih := VRk.drop (k := k) qs
    unfold ddrop dropK at ih ⊢
    by_cases h : k' = k
    · rw [List.filter_cons_of_neg (by simp [h]), List.filter_cons_of_neg (by simp [h])]; exact ih
    · rw [List.filter_cons_of_pos (by simp [h]), List.filter_cons_of_pos (by simp [h])]; exact ⟨z, _, rfl, q', ih⟩
theorem VRk.merge : ∀ {more : List (Key × Va)} {ms : List (Key × V)} {kvs : List (Key × Va)} {ys : List (Key × V)}, VRk K F β more ms → VRk K F β kvs ys → VRk K F β (mergeA kvs more) (mergeK ys ms)
  | [], _, _, _, h, q => by cases (show _ = [] from h); exact q
  | (k', u) :: r, _, _, _, ⟨z, t, e, q', qs⟩, q => by
    subst e
    show VRk K F β (mergeA (dput _ k' u) r) (mergeK (putK _ k' z) t)
    exact VRk.merge qs (VRk.put q q')
theorem LD.ok {v : Va} {x : V} {kvs : List (Key × Va)} (s : Sim K cA F β S H) (h : LD S v kvs) (r : VR K F β v x) : ∃ a ys, x = .ref a ∧ H a = some (.dK ys) ∧ VRk K F β kvs ys := by
  rcases h with rfl | ⟨k, rfl, hk⟩
  · obtain ⟨a, ys, rfl, t, q⟩ := r
    exact ⟨a, ys, rfl, s.sub _ _ t, q⟩
  · obtain ⟨a, rfl, t⟩ := r
    obtain ⟨b, e1, _, ys, e2, q⟩ := s.at hk
    rw [t] at e1
    cases (Option.some.inj e1)
    exact ⟨a, ys, rfl, e2, q⟩
/-- a dict's pairs, a locked one's too -/
def LR (S : Sto) (v : Va) (kvs : List (Key × Va)) : Prop := LD S v kvs ∨ ∃ k, v = .loc k ∧ S[k]? = some (.lok kvs)
theorem LR.ok {v : Va} {x : V} {kvs : List (Key × Va)} (s : Sim K cA F β S H) (h : LR S v kvs) (r : VR K F β v x) : ∃ a ys, x = .ref a ∧ Rd H a (.dK ys) ∧ VRk K F β kvs ys := by
  rcases h with h | ⟨k, rfl, hk⟩
  · obtain ⟨a, ys, e, e2, q⟩ := h.ok s r
    exact ⟨a, ys, e, .inl e2, q⟩
  · obtain ⟨a, rfl, t⟩ := r
    obtain ⟨b, e1, _, od, ys, e2, q⟩ := s.at hk
    rw [t] at e1
    cases (Option.some.inj e1)
    exact ⟨a, ys, rfl, .inr ⟨od, s.sub _ _ e2⟩, q⟩
theorem VRf.get : ∀ {fs : List (Str × Va)} {ys : List (Str × V)} {f : Str}, VRf K F β fs ys → (∀ v, fs.lookup f = some v → ∃ y, ys.lookup f = some y ∧ VR K F β v y) ∧ (fs.lookup f = none → ys.lookup f = none)
  | [], _, f, h => by cases (show _ = [] from h); exact ⟨fun _ e => (by cases e), fun _ => rfl⟩
  | (k, v) :: r, _, f, ⟨y, t, e, q, qs⟩ => by
    subst e
    obtain ⟨i1, i2⟩ := VRf.get (f := f) qs
    rw [List.lookup_cons, List.lookup_cons]
    cases f == k with
    | true => exact ⟨fun u e => by cases e; exact ⟨y, rfl, q⟩, fun e => by cases e⟩
    | false => exact ⟨i1, i2⟩
theorem VRf.put {f : Str} {v : Va} {y : V} (q : VR K F β v y) : ∀ {fs : List (Str × Va)} {ys : List (Str × V)}, VRf K F β fs ys → VRf K F β (putFA f v fs) (putF f y ys)
  | [], _, h => by cases (show _ = [] from h); exact ⟨y, [], rfl, q, rfl⟩
  | (k, u) :: r, _, ⟨z, t, e, q', qs⟩ => by
    subst e
    unfold putFA putF
    by_cases h : k = f
    · rw [if_pos h, if_pos h]; exact ⟨y, _, rfl, q, qs⟩
    · rw [if_neg h, if_neg h]; exact ⟨z, _, rfl, q', VRf.put q qs⟩
theorem VRf.len : ∀ {fs : List (Str × Va)} {ys : List (Str × V)}, VRf K F β fs ys → fs.length = ys.length
  | [], _, h => by cases (show _ = [] from h); rfl
  | (k, u) :: r, _, ⟨z, t, e, q', qs⟩ => by subst e; simp [VRf.len qs]
/-- an object of the store, at its address -/
theorem ins_ok {k : Nat} {x : V} {c : Str} {fs : List (Str × Va)} (s : Sim K cA F β S H) (hk : S[k]? = some (.ins c fs)) (r : VR K F β (.loc k) x) : ∃ a dx ys, x = .ref a ∧ β[k]? = some a ∧ F a = none ∧ H a = some (.ins (cA c) dx ys) ∧ VRf K F β fs ys := by
  obtain ⟨a, rfl, t⟩ := r
  obtain ⟨b, e1, fa, dx, ys, e2, q⟩ := s.at hk
  rw [t] at e1
  cases (Option.some.inj e1)
  exact ⟨a, dx, ys, rfl, t, fa, e2, q⟩
theorem dct_ok {k : Nat} {x : V} {kvs : List (Key × Va)} (s : Sim K cA F β S H) (hk : S[k]? = some (.dct kvs)) (r : VR K F β (.loc k) x) : ∃ a ys, x = .ref a ∧ β[k]? = some a ∧ F a = none ∧ H a = some (.dK ys) ∧ VRk K F β kvs ys := by
  obtain ⟨a, rfl, t⟩ := r
  obtain ⟨b, e1, fa, ys, e2, q⟩ := s.at hk
  rw [t] at e1
  cases (Option.some.inj e1)
  exact ⟨a, ys, rfl, t, fa, e2, q⟩
theorem put_dct {k : Nat} {a : Addr} {o : Ob} {kvs : List (Key × Va)} {ys : List (Key × V)} (s : Sim K cA F β S H) (hk : S[k]? = some o) (ha : β[k]? = some a) (r : VRk K F β kvs ys) (no : ∀ q, o ≠ .lok q := by intro _ h; cases h) : Sim K cA F β (S.set k (.dct kvs)) (upd H a (.dK ys)) := by
  obtain ⟨b, e1, fa, _⟩ := s.at hk
  rw [ha] at e1
  cases e1
  exact s.put (lt_of_get hk) ha (fa.out no) ⟨ys, upd_same, r⟩
theorem put_ins {k : Nat} {a dx : Addr} {o : Ob} {c : Str} {fs : List (Str × Va)} {ys : List (Str × V)} (s : Sim K cA F β S H) (hk : S[k]? = some o) (ha : β[k]? = some a) (r : VRf K F β fs ys) (no : ∀ q, o ≠ .lok q := by intro _ h; cases h) : Sim K cA F β (S.set k (.ins c fs)) (upd H a (.ins (cA c) dx ys)) := by
  obtain ⟨b, e1, fa, _⟩ := s.at hk
  rw [ha] at e1
  cases e1
  exact s.put (lt_of_get hk) ha (fa.out no) ⟨dx, ys, upd_same, r⟩
theorem post_dct {kvs : List (Key × Va)} {ys : List (Key × V)} (s : Sim K cA F β S H) (r : VRk K F β kvs ys) (h : post K cA F β Q (.loc S.length) (S ++ [.dct kvs])) : ∀ p, H p = none → Q (.ref p) (upd H p (.dK ys)) := fun p hp => by
  have s2 := s.new hp (o := .dct kvs) (u := .dK ys) ⟨ys, upd_same, VRk.mono (Same.refl _) (List.prefix_append _ _) _ _ r⟩
  refine h _ _ _ _ ⟨Same.refl _, List.prefix_append _ _⟩ s2 ⟨p, rfl, ?_⟩
  rw [← s.len]; simp
/-- a new instance, its own dict first -/
theorem new_ins (s : Sim K cA F β S H) (c : Str) {x dx : Addr} (hx : H x = none) (hdx : H dx = none) (ne : dx ≠ x) : ∃ F', Ext F β F' (β ++ [x]) ∧ Sim K cA F' (β ++ [x]) (S ++ [.ins c []]) (upd (upd H dx (.own x)) x (.ins (cA c) dx [])) := by
  obtain ⟨s1, sb⟩ := s.lay hdx (.own x)
  have hx1 : upd H dx (.own x) x = none := by rw [upd_ne (Ne.symm ne)]; exact hx
  have s2 := s1.new hx1 (o := .ins c []) (u := .ins (cA c) dx []) ⟨dx, [], upd_same, rfl⟩
  exact ⟨_, ⟨sb, List.prefix_append _ _⟩, s2⟩
end
section
variable {X : Cx}
theorem op_din (hu : X.A.units + 1 < cLine) : OpR X (compareOp .In) (fun y x H Q => ∃ a o, x = .ref a ∧ DGet H a y o ∧ Q (.bl o.isSome) H) := by
  intro pins s σ H y x u v Q I ry rx ⟨a, o, e, g, q⟩
  subst e
  cases rx
  exact d_in hu I g ry fun s' I' => ⟨.bl _, H, I', rfl, q⟩
theorem op_dnotin (hu : X.A.units + 1 < cLine) : OpR X (compareOp .NotIn) (fun y x H Q => ∃ a o, x = .ref a ∧ DGet H a y o ∧ Q (.bl (!o.isSome)) H) := by
  intro pins s σ H y x u v Q I ry rx ⟨a, o, e, g, q⟩
  subst e
  cases rx
  exact d_notIn hu I g ry fun s' I' => ⟨.bl _, H, I', rfl, q⟩
end

/-! ### operators by values -/
section
variable {X : Cx} {cA : Str → Addr}
theorem CMulA.ok {i j : Int} (h : CMulA i j) : IntMulOk i j := by
  have b : ∀ x : Int, Builtin.Int.intBits x ≤ x.natAbs.log2 + 1 := fun x => by
    unfold Builtin.Int.intBits
    split <;> omega
  have h1 := b i
  have h2 := b j
  have h3 : i.natAbs.log2 + j.natAbs.log2 < 134000000 := h
  have e : bitsLine = 134217728 := by decide
  unfold IntMulOk
  intro z
  rw [Bool.and_eq_true] at z
  have z2 := z.2
  unfold Builtin.Int.intTooBig at z2
  have z3 := of_decide_eq_true z2
  rw [e] at z3
  omega
theorem op_mulA : OpR X (binaryOp .Mult) (rI CMulA fun i j => .int (i * j)) := opI fun _ _ _ _ _ _ _ hc q => PyProof.Rows.mul_int q hc.ok
theorem op_fdivA : OpR X (binaryOp .FloorDiv) (rI (fun _ j => CDivA j) fun i j => .int (i.fdiv j)) := opI fun i j _ _ _ _ _ hc q => PyProof.Rows.floordiv_int hc.1 q (.inl (PyProof.noPylong_of_log2 hc.2))
/-- a text, taken so many times -/
def rStrRep : R2 := fun x y H Q => ∃ z i, x = .str z ∧ y = .int i ∧ 2 ≤ i ∧ i < 2 ^ 31 ∧ 0 < z.length ∧ z.length * i.toNat ≤ 1000000 ∧ Q (.str ⟨(List.replicate i.toNat z.cps).foldl (· ++ ·) #[]⟩) H
theorem fold_cps (a : Array Nat) : ∀ (n : Nat) (b : Array Nat), ((List.replicate n a).foldl (· ++ ·) b).size = b.size + n * a.size := by
  intro n
  induction n with
  | zero => intro b; simp
  | succ n ih =>
    intro b
    rw [List.replicate_succ, List.foldl_cons, ih, Array.size_append, Nat.succ_mul]
    omega
theorem op_strRep : OpR X (binaryOp .Mult) rStrRep := by
  intro pins s σ H x y v u Q I rx ry h
  obtain ⟨z, i, rfl, rfl, h1, h2, h3, h4, q⟩ := h
  obtain ⟨t, rfl⟩ := rx
  obtain ⟨t', rfl⟩ := ry
  have e1 : (decide (i < -(2 ^ 63 : Int)) || decide (i ≥ 2 ^ 63)) = false := by
    rw [decide_eq_false (by omega), decide_eq_false (by omega)]; rfl
  have e2 : (i == 1 || z.length == 0) = false := by
    rw [Bool.or_eq_false_iff]
    exact ⟨by simp; omega, by simp; omega⟩
  have hz : z.length ≤ 1000000 := Nat.le_trans (Nat.le_mul_of_pos_right _ (by omega)) h4
  refine PySem.P.mul_str e1 (fun _ _ => ?_) (fun _ _ => ?_) ?_
  · have : (1000000 : Int) ≤ (2 ^ 63 - 1) / i := by
      refine Int.le_ediv_of_mul_le (by omega) ?_
      omega
    omega
  · unfold Builtin.Str.tooLong
    rw [decide_eq_false]
    have : sizeLine = 16777216 := by decide
    omega
  · rw [if_neg (by omega), if_neg (by rw [e2]; decide)]
    refine ⟨?_, ⟨.str _, H, I.tok _, ⟨_, rfl⟩, q⟩⟩
    show Array.size _ ≤ _
    rw [fold_cps]
    have : sizeLine = 16777216 := by decide
    have e3 : z.cps.size = z.length := rfl
    rw [e3, Nat.mul_comm]
    simp
    omega
/-- what an operator's rule must give -/
def OpS (X : Cx) (cA : Str → Addr) (g : Va → Va → Sto → PV → Prop) (r : R2) : Prop := ∀ (F : Hp) (β : List Addr) (S : Sto) (H : Hp) (v u : Va) (x y : V) (Q : VK), Sim X.K cA F β S H → VR X.K F β v x → VR X.K F β u y → g v u S (post X.K cA F β Q) → r x y H Q
theorem bin_ok {op : Bop} {op' : Operator} (h : bopB op op' = true) : ∃ r, OpR X (binaryOp op') r ∧ OpS X cA (wBin op) r := by
  unfold bopB at h
  split at h
  · refine ⟨_, ((op_add.or op_add_str).or op_cat).or op_catA, fun F β S H v u x y Q s r1 r2 q => ?_⟩
    have cat : ∀ {v u : Va}, VR X.K F β v x → VR X.K F β u y → wCat v u S (post X.K cA F β Q) → rCat x y H Q := fun r1 r2 ⟨xs, h1, ys, h2, h3, q⟩ => by
      obtain ⟨a, zs, rfl, t1, q1⟩ := h1.ok s r1
      obtain ⟨b, ws, rfl, t2, q2⟩ := h2.ok s r2
      exact ⟨a, b, zs, ws, rfl, rfl, t1, t2, by rw [← q1.len, ← q2.len]; exact Nat.le_trans h3 (by decide), post_new s (q1.append q2) q⟩
    unfold wBin at q
    split at q <;> first | exact q.elim | skip
    all_goals simp only [reduceCtorEq] at *
    · cases r1; cases r2; exact .inl (.inl (.inl ⟨_, _, rfl, rfl, post_here (v := .int _) s rfl q⟩))
    · cases r1; cases r2; exact .inl (.inl (.inr ⟨_, _, rfl, rfl, q.1, post_here (v := .str _) s rfl q.2⟩))
    · exact .inl (.inr (cat r1 r2 q))
    · exact .inl (.inr (cat r1 r2 q))
    · obtain ⟨h2, q⟩ := q
      obtain ⟨a, zs, rfl, t1, q1⟩ := r1
      obtain ⟨b, ws, rfl, t2, q2⟩ := r2
      refine .inr ⟨a, b, zs, ws, rfl, rfl, SqT.mono s.sub t1, SqT.mono s.sub t2, by rw [← q1.len, ← q2.len]; exact Nat.le_trans h2 (by decide), ?_, ?_, ?_⟩
      · intro e; subst e
        have e1 := q1.len
        have e3 := List.eq_nil_of_length_eq_zero (show List.length _ = 0 from e1)
        subst e3
        rw [List.nil_append] at q
        exact q F β H _ (Ext.refl _ _) s ⟨b, ws, rfl, t2, q2⟩
      · intro _ e; subst e
        have e2 := q2.len
        have e3 := List.eq_nil_of_length_eq_zero (show List.length _ = 0 from e2)
        subst e3
        rw [List.append_nil] at q
        exact q F β H _ (Ext.refl _ _) s ⟨a, zs, rfl, t1, q1⟩
      · intro _ _
        exact post_tup s (q1.append q2) q
  · refine ⟨_, op_sub, fun F β S H v u x y Q s r1 r2 q => ?_⟩
    unfold wBin at q
    split at q <;> first | exact q.elim | skip
    all_goals simp only [reduceCtorEq] at *
    · cases r1; cases r2; exact ⟨_, _, rfl, rfl, post_here (v := .int _) s rfl q⟩
  · refine ⟨_, (op_mulA.or op_rep).or op_strRep, fun F β S H v u x y Q s r1 r2 q => ?_⟩
    unfold wBin at q
    split at q <;> first | exact q.elim | skip
    all_goals simp only [reduceCtorEq] at *
    · cases r1; cases r2; exact .inl (.inl ⟨_, _, rfl, rfl, q.1, post_here (v := .int _) s rfl q.2⟩)
    · cases r2
      obtain ⟨xs, h0, h1, h2, h3, q⟩ := q
      obtain ⟨a, zs, rfl, t1, q1⟩ := LV.ok s (.inr ⟨_, rfl, h0⟩) r1
      exact .inl (.inr ⟨a, _, zs, rfl, rfl, t1, Int.le_trans (by decide) h1, Int.lt_trans h2 (by decide), by rw [← q1.len]; exact Nat.le_trans h3 (by decide), post_new s (q1.rep _) q⟩)
    · cases r1; cases r2; obtain ⟨h1, h2, h3, h4, q⟩ := q; exact .inr ⟨_, _, rfl, rfl, h1, h2, h3, h4, post_here (v := .str _) s rfl q⟩
  · refine ⟨_, op_fdivA, fun F β S H v u x y Q s r1 r2 q => ?_⟩
    unfold wBin at q
    split at q <;> first | exact q.elim | skip
    all_goals simp only [reduceCtorEq] at *
    · cases r1; cases r2; exact ⟨_, _, rfl, rfl, q.1, post_here (v := .int _) s rfl q.2⟩
  · refine ⟨_, op_modN, fun F β S H v u x y Q s r1 r2 q => ?_⟩
    unfold wBin at q
    split at q <;> first | exact q.elim | skip
    all_goals simp only [reduceCtorEq] at *
    · cases r1; cases r2; exact ⟨_, _, rfl, rfl, q.1, post_here (v := .int _) s rfl q.2⟩
  · refine ⟨_, op_pow, fun F β S H v u x y Q s r1 r2 q => ?_⟩
    unfold wBin at q
    split at q <;> first | exact q.elim | skip
    all_goals simp only [reduceCtorEq] at *
    · cases r1; cases r2; exact ⟨_, _, rfl, rfl, q.1, post_here (v := .int _) s rfl q.2⟩
  · cases h
end

/-! ### comparisons -/
section
variable {K : PySem.W.Frag} {cA : Str → Addr} {F : Hp} {β : List Addr} {S : Sto} {H : Hp}
mutual
theorem DV.dp (s : Sim K cA F β S H) : ∀ {v : Va} {d : PyData}, DV S v d → ∀ {x : V}, VR K F β v x → Dp K H x d
  | _, _, .non, x, r => by cases (show x = .non from r); exact .non
  | _, _, .bl b, x, r => by cases (show x = .bl b from r); exact .bl b
  | _, _, .int i, x, r => by cases (show x = .int i from r); exact .int i
  | _, _, .str z, x, r => by cases (show x = .str z from r); exact .str z
  | _, _, .tup q, x, ⟨a, ys, e, t, r⟩ => by subst e; exact .tup (SqT.mono s.sub t) (DVs.dp s q r)
  | _, _, .lst q, x, ⟨a, ys, e, t, r⟩ => by subst e; exact .lst (SqL.of (s.sub _ _ t)) (DVs.dp s q r)
  | _, _, .loc hk q, x, ⟨a, e, t⟩ => by
    subst e
    obtain ⟨b, e1, _, ys, e2, r⟩ := s.at hk
    rw [t] at e1
    cases (Option.some.inj e1)
    exact .lst (SqL.of e2) (DVs.dp s q r)
theorem DVs.dp (s : Sim K cA F β S H) : ∀ {v : List Va} {d : List PyData}, DVs S v d → ∀ {x : List V}, VRs K F β v x → DpAll K H x d
  | _, _, .nil, x, r => by cases (show x = [] from r); exact .nil
  | _, _, .cons q qs, x, ⟨y, t, e, r, rs⟩ => by subst e; exact .cons (DV.dp s q r) (DVs.dp s qs rs)
end
theorem scal_ok {v u : Va} {x y : V} (h : scal v u = true) (r1 : VR K F β v x) (r2 : VR K F β u y) : L2.scal x y = true ∧ decide (x = y) = eqF v u := by
  unfold scal at h
  split at h
  · cases r1; cases r2; exact ⟨rfl, by simp [eqF]⟩
  · cases r1; cases r2; exact ⟨rfl, by simp [eqF]⟩
  · cases r1; cases r2; exact ⟨rfl, by simp [eqF]⟩
  · cases r1; cases r2; exact ⟨rfl, by simp [eqF]⟩
  · cases h
theorem isNon_ok {v : Va} {x : V} (r : VR K F β v x) : decide (x = .non) = isNon v := by
  cases v with
  | non => cases r; rfl
  | bl b => cases r; rfl
  | int i => cases r; rfl
  | str z => cases r; rfl
  | tup xs => obtain ⟨a, _, rfl, _⟩ := r; rfl
  | lst xs => obtain ⟨a, _, rfl, _⟩ := r; rfl
  | dct xs => obtain ⟨a, _, rfl, _⟩ := r; rfl
  | loc n => obtain ⟨a, rfl, _⟩ := r; rfl
  | scr n => obtain ⟨a, rfl, _⟩ := r; rfl
  | exc a => cases r; rfl
  | fnv z ws => obtain ⟨rfl, _, _⟩ := r; rfl
end
theorem VRk.mem : ∀ {kvs : List (Key × Va)} {ys : List (Key × V)}, VRk K F β kvs ys → ∀ p ∈ ys, ∃ q ∈ kvs, q.1 = p.1 ∧ VR K F β q.2 p.2
  | [], _, h, p, hp => by cases (show _ = [] from h); cases hp
  | (k', u) :: r, _, ⟨z, t, e, q, qs⟩, p, hp => by
    subst e
    rcases List.mem_cons.mp hp with rfl | hp
    · exact ⟨_, List.mem_cons_self, rfl, q⟩
    · obtain ⟨w, h1, h2⟩ := VRk.mem qs p hp
      exact ⟨w, List.mem_cons_of_mem _ h1, h2⟩
/-- pairs alike, at the heap's side -/
def AlikeK (K : PySem.W.Frag) (H : Hp) (ks ls : List (Key × V)) : Prop := ∀ p ∈ ks, ∃ z d, valV ls p.1 = some z ∧ Dp K H p.2 d ∧ Dp K H z d ∧ SeqAt.shaped d = true ∧ PyData.eqv d d = true
theorem DEq.ok {v u : Va} {x y : V} (s : Sim K cA F β S H) (h : DEq S v u) (r1 : VR K F β v x) (r2 : VR K F β u y) : ∃ a b ks ls, x = .ref a ∧ y = .ref b ∧ H a = some (.dK ks) ∧ H b = some (.dK ls) ∧ ks.length = ls.length ∧ AlikeK K H ks ls := by
  obtain ⟨ks, ls, h1, h2, hn, hp⟩ := h
  obtain ⟨a, ys, e1, t1, q1⟩ := h1.ok s r1
  obtain ⟨b, zs, e2, t2, q2⟩ := h2.ok s r2
  refine ⟨a, b, ys, zs, e1, e2, t1, t2, by rw [← q1.len, ← q2.len]; exact hn, fun p hm => ?_⟩
  obtain ⟨q, m, ek, rv⟩ := VRk.mem q1 p hm
  obtain ⟨z, g, d, d1, d2, d3, d4⟩ := hp q m
  obtain ⟨w, g2, rw2⟩ := (q2.val q.1).1 z g
  exact ⟨w, d, by rw [← ek]; exact g2, DV.dp s d1 rv, DV.dp s d2 rw2, d3, d4⟩
section
variable {X : Cx} {pins : List (Addr × Obj)} {σ : St} {H : Hp} {s : Shared}
theorem alike_hits (hu : X.A.units + 65 < cLine) (I : Inv X pins σ H s) {ls : List (Key × V)} {lb : List (Key × Value)} (rb : KV ls lb) : ∀ {ks : List (Key × V)} {ka : List (Key × Value)}, KV ks ka → AlikeK X.K H ks ls → PySem.W.KeqHits X.A.in1 s lb ka true
  | _, _, .nil, _ => .nil
  | _, _, .cons (b := w) r1 r2, h => by
    obtain ⟨z, d, g, d1, d2, d3, d4⟩ := h _ List.mem_cons_self
    have t := alike_hits hu I rb r2 fun p m => h p (List.mem_cons_of_mem _ m)
    obtain ⟨k, o⟩ := w
    obtain ⟨e, ro⟩ := r1
    have e' := (show _ = k from e)
    have rz := rb.val k
    rw [← e', g] at rz
    obtain ⟨zo, gz, rzo⟩ := rz.some_of
    rw [e'] at gz
    obtain ⟨as, p1⟩ := Dp.reads I d _ _ d1 ro
    obtain ⟨bs, p2⟩ := Dp.reads I d _ _ d2 rzo
    have q := PySem.W.KeqHits.hit gz (PySem.W.keq_at (A := X.A) p1 p2 d3 d3 (by show X.A.units + 1 + 64 < cLine; omega)) t
    rw [d4] at q
    exact q
end
section
variable {X : Cx}
theorem op_eqDD (hu : X.A.units + 65 < cLine) : OpR X (compareOp .Eq) (fun x y H Q => ∃ a b ks ls, x = .ref a ∧ y = .ref b ∧ H a = some (.dK ks) ∧ H b = some (.dK ls) ∧ ks.length = ls.length ∧ AlikeK X.K H ks ls ∧ Q (.bl true) H) := by
  intro pins s σ H x y v u Q I rx ry ⟨a, b, ks, ls, e1, e2, h1, h2, hn, hl, q⟩
  subst e1; subst e2
  cases rx; cases ry
  obtain ⟨_, low1, ka, k1, o1⟩ := I.hok a _ h1
  obtain ⟨_, low2, kb, k2, o2⟩ := I.hok b _ h2
  have len : ka.length = kb.length := by have := k1.length; have := k2.length; omega
  refine PySem.W.keq_eq (knd := mixKind X.prog X.w) low1 low2 o1 o2 (by omega) (fun _ => alike_hits hu I k2 k1 hl) ?_
  rw [len]
  exact fin_bl I q (by simp)
theorem op_neDD (hu : X.A.units + 65 < cLine) : OpR X (compareOp .NotEq) (fun x y H Q => ∃ a b ks ls, x = .ref a ∧ y = .ref b ∧ H a = some (.dK ks) ∧ H b = some (.dK ls) ∧ ks.length = ls.length ∧ AlikeK X.K H ks ls ∧ Q (.bl false) H) := by
  intro pins s σ H x y v u Q I rx ry ⟨a, b, ks, ls, e1, e2, h1, h2, hn, hl, q⟩
  subst e1; subst e2
  cases rx; cases ry
  obtain ⟨_, low1, ka, k1, o1⟩ := I.hok a _ h1
  obtain ⟨_, low2, kb, k2, o2⟩ := I.hok b _ h2
  have len : ka.length = kb.length := by have := k1.length; have := k2.length; omega
  refine PySem.W.keq_ne (knd := mixKind X.prog X.w) low1 low2 o1 o2 (by omega) (fun _ => alike_hits hu I k2 k1 hl) ?_
  rw [len]
  exact fin_bl I q (by simp)
end
section
variable {X : Cx}
def rLtD (K : PySem.W.Frag) : R2 := fun x y H Q => ∃ d e, Dp K H x d ∧ Dp K H y e ∧ PySem.W.alike d e = true ∧ d.depth ≤ 60 ∧ d ≠ .none ∧ Q (.bl (PySem.W.dataLt d e)) H
def rGtD (K : PySem.W.Frag) : R2 := fun x y H Q => ∃ d e, Dp K H x d ∧ Dp K H y e ∧ PySem.W.alike d e = true ∧ d.depth ≤ 60 ∧ d ≠ .none ∧ Q (.bl (PySem.W.dataLt e d)) H
theorem op_ltD (hu : X.A.units + 65 < cLine) : OpR X (compareOp .Lt) (rLtD X.K) := by
  intro pins s σ H x y v u Q I rx ry ⟨d, e, hd, he, ha, hl, hn, q⟩
  obtain ⟨as, r1⟩ := Dp.reads I d x v hd rx
  obtain ⟨bs, r2⟩ := Dp.reads I e y u he ry
  exact PySem.W.rcLt_alike d e X.A s v u as bs r1 r2 ha hn (by omega) X.prog X.w X.xe _ ⟨.bl _, H, I, rfl, q⟩
theorem op_gtD (hu : X.A.units + 65 < cLine) : OpR X (compareOp .Gt) (rGtD X.K) := by
  intro pins s σ H x y v u Q I rx ry ⟨d, e, hd, he, ha, hl, hn, q⟩
  obtain ⟨as, r1⟩ := Dp.reads I d x v hd rx
  obtain ⟨bs, r2⟩ := Dp.reads I e y u he ry
  exact PySem.W.rcGt_alike d e X.A s v u as bs r1 r2 ha hn (by omega) X.prog X.w X.xe _ ⟨.bl _, H, I, rfl, q⟩
end
/-! ### == with dicts among the parts -/
section
open PySem.W (EqTree)
variable {X : Cx} {pins : List (Addr × Obj)} {σ : St} {H : Hp} {s : Shared} {cA : Str → Addr} {F : Hp} {β : List Addr} {S : Sto}
theorem vals_at {K : PySem.W.Frag} : ∀ {vs : List Va} {xs : List V} {us : List Value}, VRs K F β vs xs → Vals xs us → ∀ {j : Nat} {u : Value}, us[j]? = some u → ∃ v x, vs[j]? = some v ∧ VR K F β v x ∧ RelV x u
  | [], _, _, r, p, j, u, h => by cases (show _ = [] from r); cases p; simp at h
  | v :: vs, _, _, ⟨x, xs, e, r, rs⟩, p, j, u, h => by
    subst e
    cases p with
    | cons p ps => cases j with
      | zero => simp at h; subst h; exact ⟨v, x, rfl, r, p⟩
      | succ j => exact vals_at (j := j) rs ps (by simpa using h)
theorem vals_len {K : PySem.W.Frag} {vs : List Va} {xs : List V} {us : List Value} (r : VRs K F β vs xs) (p : Vals xs us) : vs.length = us.length := r.len.trans p.length
theorem list_one {h : Heap} {a : Addr} {vs us : Array Value} (h1 : h.IsList a vs) (h2 : h.IsList a us) : vs = us := by
  obtain ⟨o, e, _, n, d⟩ := h1
  obtain ⟨o', e', _, n', d'⟩ := h2
  rw [e] at e'; cases e'; rw [d] at d'; cases d'; rfl
theorem tuple_one {h : Heap} {a : Addr} {vs us : Array Value} (h1 : h.IsTuple a vs) (h2 : h.IsTuple a us) : vs = us := by
  obtain ⟨o, e, _, n, d⟩ := h1
  obtain ⟨o', e', _, n', d'⟩ := h2
  rw [e] at e'; cases e'; rw [d] at d'; cases d'; rfl
theorem LV.heap (I : Inv X pins σ H s) (si : Sim X.K cA F β S H) {v : Va} {x : V} {u : Value} {xs : List Va} (h : LV S v xs) (r : VR X.K F β v x) (p : RelV x u) : ∃ a ys us, u = .ref a ∧ VRs X.K F β xs ys ∧ Vals ys us ∧ s.heap.IsList a us.toArray := by
  obtain ⟨a, ys, rfl, e, q⟩ := h.ok si r
  cases p
  obtain ⟨us, rv, hl, _⟩ := I.list (SqL.of e)
  exact ⟨a, ys, us, rfl, q, rv, hl.isList⟩
theorem tup_heap (I : Inv X pins σ H s) (si : Sim X.K cA F β S H) {x : V} {u : Value} {xs : List Va} (r : VR X.K F β (.tup xs) x) (p : RelV x u) : ∃ a ys us, u = .ref a ∧ VRs X.K F β xs ys ∧ Vals ys us ∧ s.heap.IsTuple a us.toArray := by
  obtain ⟨a, ys, rfl, t, q⟩ := r
  cases p
  obtain ⟨us, rv, hl, _⟩ := I.tuple (SqT.mono si.sub t)
  exact ⟨a, ys, us, rfl, q, rv, hl⟩
theorem LD.heap (I : Inv X pins σ H s) (si : Sim X.K cA F β S H) {v : Va} {x : V} {u : Value} {ks : List (Key × Va)} (h : LD S v ks) (r : VR X.K F β v x) (p : RelV x u) : ∃ a ys ka, u = .ref a ∧ VRk X.K F β ks ys ∧ KV ys ka ∧ H a = some (.dK ys) ∧ (a == sysModules) = false ∧ s.heap.DictOf (mixKind X.prog X.w) a ka := by
  obtain ⟨a, ys, rfl, e, q⟩ := h.ok si r
  cases p
  obtain ⟨_, low, ka, k, o⟩ := I.hok a _ e
  exact ⟨a, ys, ka, rfl, q, k, e, low, o⟩
theorem dget_valueAt {K : PySem.W.Frag} {ls : List (Key × Va)} {ys : List (Key × V)} {lb : List (Key × Value)} (r : VRk K F β ls ys) (p : KV ys lb) (k : Key) :
    (∀ y, valueAt lb k = some y → ∃ v x, dget ls k = some v ∧ VR K F β v x ∧ RelV x y) ∧ (valueAt lb k).isSome = (dget ls k).isSome := by
  have rk := p.val k
  obtain ⟨g1, g2⟩ := r.val k
  cases hd : dget ls k with
  | none =>
    rw [g2 hd] at rk
    have : valueAt lb k = none := by
      have := rk.isSome_eq
      cases e : valueAt lb k with
      | none => rfl
      | some y => rw [e] at this; cases this
    rw [this]
    exact ⟨fun y e => (by cases e), rfl⟩
  | some v =>
    obtain ⟨x, e1, r1⟩ := g1 v hd
    rw [e1] at rk
    obtain ⟨y, e2, r2⟩ := rk.some_of
    rw [e2]
    exact ⟨fun y' e => by cases e; exact ⟨v, x, rfl, r1, r2⟩, rfl⟩
theorem pairs_one {p : Program} {w : World} {K : Type} [DecidableEq K] {knd : KeyKind p w K} {es : List DictEntry} : ∀ {ka kb : List (K × Value)}, Pairs knd es ka → Pairs knd es kb → ka = kb := by
  induction es with
  | nil => intro ka kb h1 h2; cases h1; cases h2; rfl
  | cons e es ih =>
    intro ka kb h1 h2
    cases h1 with
    | cons a1 b1 c1 => cases h2 with
      | cons a2 b2 c2 =>
        rw [ih c1 c2]
        exact congrArg (· :: _) (Prod.ext (knd.inj _ _ _ a1 a2) (b1.symm.trans b2))
theorem dictOf_one {p : Program} {w : World} {K : Type} [DecidableEq K] {knd : KeyKind p w K} {h : Heap} {a : Addr} {ka kb : List (K × Value)} (h1 : h.DictOf knd a ka) (h2 : h.DictOf knd a kb) : ka = kb := by
  obtain ⟨o, es, ep, e, _, d, _, q, _⟩ := h1
  obtain ⟨o', es', ep', e', _, d', _, q', _⟩ := h2
  rw [e] at e'; cases e'; rw [d] at d'; cases d'
  exact pairs_one q q'
theorem dcts_parts {K : PySem.W.Frag} {p : Program} {w : World} {h : Heap} {a : Addr} {ks ls : List (Key × Va)} {e : Key → Bool} {zs ws : List (Key × V)} {ka kb : List (Key × Value)} (q1 : VRk K F β ks zs) (k1 : KV zs ka) (q2 : VRk K F β ls ws) (k2 : KV ws kb) (t1 : h.DictOf (mixKind p w) a ka) :
    ks.length = ka.length ∧ ls.length = kb.length ∧ ((ka.all fun p => (valueAt kb p.1).isSome && e p.1) = ks.all fun p => (dget ls p.1).isSome && e p.1) ∧
    ∀ k v y, (k, v) ∈ ka → valueAt kb k = some y → ∃ v1 x1 v2 x2, (k, v1) ∈ ks ∧ VR K F β v1 x1 ∧ RelV x1 v ∧ dget ls k = some v2 ∧ VR K F β v2 x2 ∧ RelV x2 y := by
  have K1 : ks.map (·.1) = ka.map (·.1) := (VRk.keys q1).symm.trans k1.keys
  have K2 : ls.map (·.1) = kb.map (·.1) := (VRk.keys q2).symm.trans k2.keys
  refine ⟨by simpa using congrArg List.length K1, by simpa using congrArg List.length K2, ?_, fun k v y hm hv => ?_⟩
  · have a1 : (ka.all fun p => (valueAt kb p.1).isSome && e p.1) = (ka.map (·.1)).all fun k => (dget ls k).isSome && e k := by
      rw [List.all_map]
      refine congrArg (List.all ka) (funext fun p => ?_)
      show _ = ((dget ls p.1).isSome && e p.1)
      rw [(dget_valueAt q2 k2 p.1).2]
    rw [a1, ← K1, List.all_map]
    rfl
  · have nd : (ka.map (·.1)).Nodup := by obtain ⟨_, _, _, _, _, _, _, _, nd⟩ := id t1; exact nd
    obtain ⟨v2, x2, g2, f2, o2⟩ := (dget_valueAt q2 k2 k).1 y hv
    have hv1 := valueAt_of_mem nd hm
    obtain ⟨v1, x1, g1, f1, o1⟩ := (dget_valueAt q1 k1 k).1 v hv1
    refine ⟨v1, x1, v2, x2, ?_, f1, o1, g2, f2, o2⟩
    unfold dget at g1
    obtain ⟨p, hp, ep⟩ := Option.map_eq_some_iff.mp g1
    have := List.find?_some hp
    have hk : p.1 = k := by simpa using this
    have := List.mem_of_find?_eq_some hp
    rw [← hk, ← ep]
    exact this
theorem hits_of {A : Around} {kb : List (Key × Value)} {e : Key → Bool} : ∀ (r : List (Key × Value)), (∀ k v y, (k, v) ∈ r → valueAt kb k = some y → SeqAt.EqAt A s v y (e k)) → PySem.W.KeqHits A s kb r (r.all fun p => (valueAt kb p.1).isSome && e p.1)
  | [], _ => .nil
  | (k, v) :: r, h => by
    cases hv : valueAt kb k with
    | none =>
      have q : (((k, v) :: r).all fun p => (valueAt kb p.1).isSome && e p.1) = false := by simp [hv]
      rw [q]
      exact .miss hv
    | some y =>
      have q : (((k, v) :: r).all fun p => (valueAt kb p.1).isSome && e p.1) = (e k && r.all fun p => (valueAt kb p.1).isSome && e p.1) := by simp [hv]
      rw [q]
      exact .hit hv (h k v y List.mem_cons_self hv) (hits_of r fun k' v' y' hm hv' => h k' v' y' (List.mem_cons_of_mem _ hm) hv')
theorem QE.tree (I : Inv X pins σ H s) (si : Sim X.K cA F β S H) {n : Nat} {va ua : Va} {b : Bool} (h : QE S n va ua b) : ∀ {x y : V} {v u : Value}, VR X.K F β va x → VR X.K F β ua y → RelV x v → RelV y u → EqTree X.prog X.w s n v u b ∧ (v = u → b = true) := by
  induction h with
  | @leaf n v u d e hd he sd se hm =>
    intro x y v u r1 r2 p1 p2
    obtain ⟨as, q1⟩ := Dp.reads I d x v (DV.dp si hd r1) p1
    obtain ⟨bs, q2⟩ := Dp.reads I e y u (DV.dp si he r2) p2
    refine ⟨.leaf fun A hu => SeqAt.eqAt_reads d e A s v u as bs q1 q2 (SeqAt.canLay_of_shaped sd) (SeqAt.canLay_of_shaped se) (by omega), fun z => ?_⟩
    subst z
    have := SeqAt.Reads.unique d e v as bs (SeqAt.canLay_of_shaped sd) q1 q2
    subst this
    exact SeqAt.eqv_refl d (SeqAt.canLay_of_shaped sd)
  | @lsts n va ua xs ys e h1 h2 hl _ ih =>
    intro x y v u r1 r2 p1 p2
    obtain ⟨a, zs, us, rfl, q1, k1, t1⟩ := h1.heap I si r1 p1
    obtain ⟨b, ws, us', rfl, q2, k2, t2⟩ := h2.heap I si r2 p2
    have l1 := vals_len q1 k1
    have l2 := vals_len q2 k2
    have item : ∀ j (e1 : j < us.toArray.size) (e2 : j < us'.toArray.size), EqTree X.prog X.w s n us.toArray[j] us'.toArray[j] (e j) ∧ (us.toArray[j] = us'.toArray[j] → e j = true) := fun j e1 e2 => by
      obtain ⟨v1, x1, g1, f1, o1⟩ := vals_at q1 k1 (j := j) (u := us.toArray[j]) (by simp)
      obtain ⟨v2, x2, g2, f2, o2⟩ := vals_at q2 k2 (j := j) (u := us'.toArray[j]) (by simp)
      exact ih j v1 v2 g1 g2 f1 f2 o1 o2
    have T : Value.ref a = Value.ref b → (List.range xs.length).all e = true := fun z => by
      cases z
      have := list_one t1 t2
      have eu : us = us' := by simpa using this
      subst eu
      refine List.all_eq_true.mpr fun j hj => ?_
      have hj : j < us.toArray.size := by simpa [l1] using List.mem_range.mp hj
      exact (item j hj hj).2 rfl
    refine ⟨?_, T⟩
    by_cases hab : a = b
    · rw [T (by rw [hab]), hab]; exact .same
    · have := EqTree.lists (e := e) hab t1 t2 (by simp; omega) fun j e1 e2 => (item j e1 e2).1
      have es : us.toArray.size = xs.length := by simp [l1]
      rw [es] at this
      exact this
  | @lstsL n va ua xs ys h1 h2 hl =>
    intro x y v u r1 r2 p1 p2
    obtain ⟨a, zs, us, rfl, q1, k1, t1⟩ := h1.heap I si r1 p1
    obtain ⟨b, ws, us', rfl, q2, k2, t2⟩ := h2.heap I si r2 p2
    have l1 := vals_len q1 k1
    have l2 := vals_len q2 k2
    have hab : a ≠ b := fun z => by
      subst z
      have := list_one t1 t2
      have eu : us = us' := by simpa using this
      exact hl (by rw [l1, l2, eu])
    exact ⟨.listsLen hab t1 t2 (by simp; omega), fun z => absurd (by cases z; rfl) hab⟩
  | @tups n xs ys e _ ih =>
    intro x y v u r1 r2 p1 p2
    obtain ⟨a, zs, us, rfl, q1, k1, t1⟩ := tup_heap I si r1 p1
    obtain ⟨b, ws, us', rfl, q2, k2, t2⟩ := tup_heap I si r2 p2
    have l1 := vals_len q1 k1
    have l2 := vals_len q2 k2
    have item : ∀ j (e1 : j < us.toArray.size) (e2 : j < us'.toArray.size), EqTree X.prog X.w s n us.toArray[j] us'.toArray[j] (e j) ∧ (us.toArray[j] = us'.toArray[j] → e j = true) := fun j e1 e2 => by
      obtain ⟨v1, x1, g1, f1, o1⟩ := vals_at q1 k1 (j := j) (u := us.toArray[j]) (by simp)
      obtain ⟨v2, x2, g2, f2, o2⟩ := vals_at q2 k2 (j := j) (u := us'.toArray[j]) (by simp)
      exact ih j v1 v2 g1 g2 f1 f2 o1 o2
    have T : Value.ref a = Value.ref b → ((List.range (min xs.length ys.length)).all e && xs.length == ys.length) = true := fun z => by
      cases z
      have := tuple_one t1 t2
      have eu : us = us' := by simpa using this
      subst eu
      rw [Bool.and_eq_true]
      refine ⟨List.all_eq_true.mpr fun j hj => ?_, by simp [l1, l2]⟩
      have hj : j < us.toArray.size := by
        have := List.mem_range.mp hj
        simp only [List.size_toArray]
        omega
      exact (item j hj hj).2 rfl
    refine ⟨?_, T⟩
    by_cases hab : a = b
    · rw [T (by rw [hab]), hab]; exact .same
    · have := EqTree.tuples (e := e) hab t1 t2 fun j e1 e2 => (item j e1 e2).1
      have es : us.toArray.size = xs.length := by simp [l1]
      have es' : us'.toArray.size = ys.length := by simp [l2]
      rw [es, es'] at this
      exact this
  | @dcts n va ua ks ls e h1 h2 _ ih =>
    intro x y v u r1 r2 p1 p2
    obtain ⟨a, zs, ka, rfl, q1, k1, H1, s1, t1⟩ := h1.heap I si r1 p1
    obtain ⟨b, ws, kb, rfl, q2, k2, H2, s2, t2⟩ := h2.heap I si r2 p2
    have K1 : ks.map (·.1) = ka.map (·.1) := (VRk.keys q1).symm.trans k1.keys
    have K2 : ls.map (·.1) = kb.map (·.1) := (VRk.keys q2).symm.trans k2.keys
    have L1 : ks.length = ka.length := by simpa using congrArg List.length K1
    have L2 : ls.length = kb.length := by simpa using congrArg List.length K2
    have nd : (ka.map (·.1)).Nodup := by obtain ⟨_, _, _, _, _, _, _, _, nd⟩ := id t1; exact nd
    have item : ∀ k v y, (k, v) ∈ ka → valueAt kb k = some y → EqTree X.prog X.w s n v y (e k) ∧ (v = y → e k = true) := fun k v y hm hv => by
      obtain ⟨v2, x2, g2, f2, o2⟩ := (dget_valueAt q2 k2 k).1 y hv
      have hv1 := valueAt_of_mem nd hm
      obtain ⟨v1, x1, g1, f1, o1⟩ := (dget_valueAt q1 k1 k).1 v hv1
      have hm1 : (k, v1) ∈ ks := by
        unfold dget at g1
        obtain ⟨p, hp, ep⟩ := Option.map_eq_some_iff.mp g1
        have := List.find?_some hp
        have hk : p.1 = k := by simpa using this
        have := List.mem_of_find?_eq_some hp
        rw [← hk, ← ep]
        exact this
      exact ih k v1 v2 hm1 g2 f1 f2 o1 o2
    have alls : (ka.all fun p => (valueAt kb p.1).isSome && e p.1) = ks.all fun p => (dget ls p.1).isSome && e p.1 := by
      have a1 : (ka.all fun p => (valueAt kb p.1).isSome && e p.1) = (ka.map (·.1)).all fun k => (dget ls k).isSome && e k := by
        rw [List.all_map]
        refine congrArg (List.all ka) (funext fun p => ?_)
        show _ = ((dget ls p.1).isSome && e p.1)
        rw [(dget_valueAt q2 k2 p.1).2]
      rw [a1, ← K1, List.all_map]
      rfl
    have T : Value.ref a = Value.ref b → (ks.length == ls.length && ks.all fun p => (dget ls p.1).isSome && e p.1) = true := fun z => by
      cases z
      rw [H1] at H2
      cases H2
      have ez : ks.map (·.1) = ls.map (·.1) := (VRk.keys q1).symm.trans (VRk.keys q2)
      have el : ks.length = ls.length := by simpa using congrArg List.length ez
      rw [Bool.and_eq_true]
      refine ⟨by simp [el], ?_⟩
      rw [← alls]
      refine List.all_eq_true.mpr fun p hp => ?_
      rw [Bool.and_eq_true]
      have hin : p.1 ∈ ls.map (·.1) := by
        rw [← ez, K1]
        exact List.mem_map.mpr ⟨p, hp, rfl⟩
      have hso : (dget ls p.1).isSome = true := by
        obtain ⟨q, hq, eq⟩ := List.mem_map.mp hin
        unfold dget
        rw [Option.isSome_map, List.find?_isSome]
        exact ⟨q, hq, by simpa using eq⟩
      refine ⟨by rw [(dget_valueAt q2 k2 p.1).2]; exact hso, ?_⟩
      -- the two readings of the one dict
      rw [← (dget_valueAt q2 k2 p.1).2] at hso
      obtain ⟨y, hy⟩ := Option.isSome_iff_exists.mp hso
      have hv1 : valueAt ka p.1 = some p.2 := valueAt_of_mem nd hp
      have hy' : y = p.2 := by
        have := dictOf_one t1 t2
        rw [this] at hv1
        rw [hv1] at hy
        exact (Option.some.inj hy).symm
      exact (item p.1 p.2 y hp hy).2 hy'.symm
    refine ⟨?_, T⟩
    by_cases hab : a = b
    · rw [T (by rw [hab]), hab]; exact .same
    · have := EqTree.dicts (e := e) hab s1 s2 t1 t2 fun k v y hm hv => (item k v y hm hv).1
      rw [alls, ← L1, ← L2] at this
      exact this
  | @dl n va ua ks xs h1 h2 =>
    intro x y v u r1 r2 p1 p2
    obtain ⟨a, zs, ka, rfl, q1, k1, H1, s1, t1⟩ := h1.heap I si r1 p1
    obtain ⟨b, ws, us', rfl, q2, k2, t2⟩ := h2.heap I si r2 p2
    have hab := SeqAt.ne_dict_list (SeqAt.dict_obj t1) t2
    exact ⟨.leaf fun A hu => .of_refs hab (.dict_list (SeqAt.dict_obj t1) t2 (by omega)), fun z => absurd (by cases z; rfl) hab⟩
  | @ld n va ua ks xs h1 h2 =>
    intro x y v u r1 r2 p1 p2
    obtain ⟨a, zs, us, rfl, q1, k1, t1⟩ := h1.heap I si r1 p1
    obtain ⟨b, ws, kb, rfl, q2, k2, H2, s2, t2⟩ := h2.heap I si r2 p2
    have hab := (SeqAt.ne_dict_list (SeqAt.dict_obj t2) t1).symm
    exact ⟨.leaf fun A hu => .of_refs hab (.list_dict t1 (SeqAt.dict_obj t2) (by omega)), fun z => absurd (by cases z; rfl) hab⟩
  | @dt n va ks xs h1 =>
    intro x y v u r1 r2 p1 p2
    obtain ⟨a, zs, ka, rfl, q1, k1, H1, s1, t1⟩ := h1.heap I si r1 p1
    obtain ⟨b, ws, us', rfl, q2, k2, t2⟩ := tup_heap I si r2 p2
    have hab := SeqAt.ne_dict_tuple (SeqAt.dict_obj t1) t2
    exact ⟨.leaf fun A hu => .of_refs hab (.dict_tuple (SeqAt.dict_obj t1) t2 (by omega)), fun z => absurd (by cases z; rfl) hab⟩
  | @td n ua ks xs h1 =>
    intro x y v u r1 r2 p1 p2
    obtain ⟨a, zs, us, rfl, q1, k1, t1⟩ := tup_heap I si r1 p1
    obtain ⟨b, ws, kb, rfl, q2, k2, H2, s2, t2⟩ := h1.heap I si r2 p2
    have hab := (SeqAt.ne_dict_tuple (SeqAt.dict_obj t2) t1).symm
    exact ⟨.leaf fun A hu => .of_refs hab (.tuple_dict t1 (SeqAt.dict_obj t2) (by omega)), fun z => absurd (by cases z; rfl) hab⟩
  | @lt n va ys xs h1 =>
    intro x y v u r1 r2 p1 p2
    obtain ⟨a, zs, us, rfl, q1, k1, t1⟩ := h1.heap I si r1 p1
    obtain ⟨b, ws, us', rfl, q2, k2, t2⟩ := tup_heap I si r2 p2
    have hab := SeqAt.ne_of_list_tuple t1 t2
    exact ⟨.leaf fun A hu => .list_tuple t1 t2 (by omega), fun z => absurd (by cases z; rfl) hab⟩
  | @tl n ua ys xs h1 =>
    intro x y v u r1 r2 p1 p2
    obtain ⟨a, zs, us, rfl, q1, k1, t1⟩ := tup_heap I si r1 p1
    obtain ⟨b, ws, us', rfl, q2, k2, t2⟩ := h1.heap I si r2 p2
    have hab := (SeqAt.ne_of_list_tuple t2 t1).symm
    exact ⟨.leaf fun A hu => .tuple_list t1 t2 (by omega), fun z => absurd (by cases z; rfl) hab⟩
end
section
open PySem.W (EqTree)
variable {X : Cx} {pins : List (Addr × Obj)} {σ : St} {H : Hp} {s : Shared} {cA : Str → Addr} {F : Hp} {β : List Addr} {S : Sto}
theorem QE.comp (hu : X.A.units + 65 < cLine) (I : Inv X pins σ H s) (si : Sim X.K cA F β S H) {n : Nat} {va ua : Va} {b : Bool} (h : QE S n va ua b) (hn : n ≤ 50) {x y : V} {v u : Value} (r1 : VR X.K F β va x) (r2 : VR X.K F β ua y) (p1 : RelV x v) (p2 : RelV y u) {E Q : Value → Shared → Prop} (q : Q (.bool b) s) :
    wpAny (model X.prog X.w) X.A (compareOp .Eq v u) Q E s := by
  cases h with
  | @leaf _ _ _ d e hd he sd se hm =>
    obtain ⟨as, q1⟩ := Dp.reads I d x v (DV.dp si hd r1) p1
    obtain ⟨bs, q2⟩ := Dp.reads I e y u (DV.dp si he r2) p2
    exact SeqAt.compareEq_shaped q1 q2 sd se (by omega) q
  | @lsts n _ _ xs ys e h1 h2 hl ih =>
    obtain ⟨a, zs, us, rfl, q1, k1, t1⟩ := h1.heap I si r1 p1
    obtain ⟨b, ws, us', rfl, q2, k2, t2⟩ := h2.heap I si r2 p2
    have l1 := vals_len q1 k1
    have l2 := vals_len q2 k2
    refine PySem.W.eq_listsT (n := n) (e := e) t1 t2 (by simp; omega) (fun j e1 e2 => ?_) (by omega) ?_
    · obtain ⟨v1, x1, g1, f1, o1⟩ := vals_at q1 k1 (j := j) (u := us.toArray[j]) (by simp)
      obtain ⟨v2, x2, g2, f2, o2⟩ := vals_at q2 k2 (j := j) (u := us'.toArray[j]) (by simp)
      exact ((ih j v1 v2 g1 g2).tree I si f1 f2 o1 o2).1
    · have es : us.toArray.size = xs.length := by simp [l1]
      rw [es]; exact q
  | @lstsL n _ _ xs ys h1 h2 hl =>
    obtain ⟨a, zs, us, rfl, q1, k1, t1⟩ := h1.heap I si r1 p1
    obtain ⟨b, ws, us', rfl, q2, k2, t2⟩ := h2.heap I si r2 p2
    have l1 := vals_len q1 k1
    have l2 := vals_len q2 k2
    exact SeqAt.RcAt.lists_lengths t1 t2 (by simp; omega) (by omega) _ _ _ _ q
  | @tups n xs ys e ih =>
    obtain ⟨a, zs, us, rfl, q1, k1, t1⟩ := tup_heap I si r1 p1
    obtain ⟨b, ws, us', rfl, q2, k2, t2⟩ := tup_heap I si r2 p2
    have l1 := vals_len q1 k1
    have l2 := vals_len q2 k2
    refine PySem.W.eq_tuplesT (n := n) (e := e) t1 t2 (fun j e1 e2 => ?_) (by omega) ?_
    · obtain ⟨v1, x1, g1, f1, o1⟩ := vals_at q1 k1 (j := j) (u := us.toArray[j]) (by simp)
      obtain ⟨v2, x2, g2, f2, o2⟩ := vals_at q2 k2 (j := j) (u := us'.toArray[j]) (by simp)
      exact ((ih j v1 v2 g1 g2).tree I si f1 f2 o1 o2).1
    · have es : us.toArray.size = xs.length := by simp [l1]
      have es' : us'.toArray.size = ys.length := by simp [l2]
      rw [es, es']; exact q
  | @dcts n _ _ ks ls e h1 h2 ih =>
    obtain ⟨a, zs, ka, rfl, q1, k1, H1, s1, t1⟩ := h1.heap I si r1 p1
    obtain ⟨b, ws, kb, rfl, q2, k2, H2, s2, t2⟩ := h2.heap I si r2 p2
    obtain ⟨L1, L2, alls, item⟩ := dcts_parts (e := e) q1 k1 q2 k2 t1
    refine PySem.W.eq_dictsT (n := n) (e := e) s1 s2 t1 t2 (fun k v y hm hv => ?_) (by omega) ?_
    · obtain ⟨v1, x1, v2, x2, m1, f1, o1, g2, f2, o2⟩ := item k v y hm hv
      exact ((ih k v1 v2 m1 g2).tree I si f1 f2 o1 o2).1
    · rw [alls, ← L1, ← L2]; exact q
  | dl h1 h2 =>
    obtain ⟨a, zs, ka, rfl, q1, k1, H1, s1, t1⟩ := h1.heap I si r1 p1
    obtain ⟨b, ws, us', rfl, q2, k2, t2⟩ := h2.heap I si r2 p2
    exact SeqAt.RcAt.dict_list (SeqAt.dict_obj t1) t2 (by omega) _ _ _ _ q
  | ld h1 h2 =>
    obtain ⟨a, zs, us, rfl, q1, k1, t1⟩ := h1.heap I si r1 p1
    obtain ⟨b, ws, kb, rfl, q2, k2, H2, s2, t2⟩ := h2.heap I si r2 p2
    exact SeqAt.RcAt.list_dict t1 (SeqAt.dict_obj t2) (by omega) _ _ _ _ q
  | dt h1 =>
    obtain ⟨a, zs, ka, rfl, q1, k1, H1, s1, t1⟩ := h1.heap I si r1 p1
    obtain ⟨b, ws, us', rfl, q2, k2, t2⟩ := tup_heap I si r2 p2
    exact SeqAt.RcAt.dict_tuple (SeqAt.dict_obj t1) t2 (by omega) _ _ _ _ q
  | td h1 =>
    obtain ⟨a, zs, us, rfl, q1, k1, t1⟩ := tup_heap I si r1 p1
    obtain ⟨b, ws, kb, rfl, q2, k2, H2, s2, t2⟩ := h1.heap I si r2 p2
    exact SeqAt.RcAt.tuple_dict t1 (SeqAt.dict_obj t2) (by omega) _ _ _ _ q
  | lt h1 =>
    obtain ⟨a, zs, us, rfl, q1, k1, t1⟩ := h1.heap I si r1 p1
    obtain ⟨b, ws, us', rfl, q2, k2, t2⟩ := tup_heap I si r2 p2
    exact SeqAt.RcAt.list_tuple t1 t2 (by omega) _ _ _ _ q
  | tl h1 =>
    obtain ⟨a, zs, us, rfl, q1, k1, t1⟩ := tup_heap I si r1 p1
    obtain ⟨b, ws, us', rfl, q2, k2, t2⟩ := h1.heap I si r2 p2
    exact SeqAt.RcAt.tuple_list t1 t2 (by omega) _ _ _ _ q
theorem NQ.comp (hu : X.A.units + 65 < cLine) (I : Inv X pins σ H s) (si : Sim X.K cA F β S H) {va ua : Va} {b : Bool} (h : NQ S va ua b) {x y : V} {v u : Value} (r1 : VR X.K F β va x) (r2 : VR X.K F β ua y) (p1 : RelV x v) (p2 : RelV y u) {E Q : Value → Shared → Prop} (q : Q (.bool (!b)) s) :
    wpAny (model X.prog X.w) X.A (compareOp .NotEq v u) Q E s := by
  cases h with
  | @leaf _ _ d e hd he sd se =>
    obtain ⟨as, q1⟩ := Dp.reads I d x v (DV.dp si hd r1) p1
    obtain ⟨bs, q2⟩ := Dp.reads I e y u (DV.dp si he r2) p2
    exact SeqAt.compareNe_shaped q1 q2 sd se (by omega) q
  | @dcts _ _ ks ls e h1 h2 ih =>
    obtain ⟨a, zs, ka, rfl, q1, k1, H1, s1, t1⟩ := h1.heap I si r1 p1
    obtain ⟨b, ws, kb, rfl, q2, k2, H2, s2, t2⟩ := h2.heap I si r2 p2
    obtain ⟨L1, L2, alls, item⟩ := dcts_parts (e := e) q1 k1 q2 k2 t1
    refine PySem.W.keq_ne (knd := mixKind X.prog X.w) (r := ka.all fun p => (valueAt kb p.1).isSome && e p.1) s1 s2 t1 t2 (by omega) (fun _ => hits_of ka fun k v y hm hv => ?_) ?_
    · obtain ⟨v1, x1, v2, x2, m1, f1, o1, g2, f2, o2⟩ := item k v y hm hv
      obtain ⟨d, d', d1, d2, d3, d4, d5⟩ := ih k v1 v2 m1 g2
      obtain ⟨as, p1'⟩ := Dp.reads I d _ _ (DV.dp si d1 f1) o1
      obtain ⟨bs, p2'⟩ := Dp.reads I d' _ _ (DV.dp si d2 f2) o2
      rw [d5]
      exact PySem.W.keq_at (A := X.A) p1' p2' d3 d4 (by show X.A.units + 1 + 64 < cLine; omega)
    · rw [alls, ← L1, ← L2]; exact q
  | dl h1 h2 =>
    obtain ⟨a, zs, ka, rfl, q1, k1, H1, s1, t1⟩ := h1.heap I si r1 p1
    obtain ⟨b, ws, us', rfl, q2, k2, t2⟩ := h2.heap I si r2 p2
    exact SeqAt.RcNeAt.dict_list (SeqAt.dict_obj t1) t2 (by omega) _ _ _ _ q
  | ld h1 h2 =>
    obtain ⟨a, zs, us, rfl, q1, k1, t1⟩ := h1.heap I si r1 p1
    obtain ⟨b, ws, kb, rfl, q2, k2, H2, s2, t2⟩ := h2.heap I si r2 p2
    exact SeqAt.RcNeAt.list_dict t1 (SeqAt.dict_obj t2) (by omega) _ _ _ _ q
  | dt h1 =>
    obtain ⟨a, zs, ka, rfl, q1, k1, H1, s1, t1⟩ := h1.heap I si r1 p1
    obtain ⟨b, ws, us', rfl, q2, k2, t2⟩ := tup_heap I si r2 p2
    exact SeqAt.RcNeAt.dict_tuple (SeqAt.dict_obj t1) t2 (by omega) _ _ _ _ q
  | td h1 =>
    obtain ⟨a, zs, us, rfl, q1, k1, t1⟩ := tup_heap I si r1 p1
    obtain ⟨b, ws, kb, rfl, q2, k2, H2, s2, t2⟩ := h1.heap I si r2 p2
    exact SeqAt.RcNeAt.tuple_dict t1 (SeqAt.dict_obj t2) (by omega) _ _ _ _ q
def rEqT (X : Cx) (cA : Str → Addr) : R2 := fun x y H Q => ∃ F β S v u b, Sim X.K cA F β S H ∧ VR X.K F β v x ∧ VR X.K F β u y ∧ QE S 50 v u b ∧ Q (.bl b) H
def rNeT (X : Cx) (cA : Str → Addr) : R2 := fun x y H Q => ∃ F β S v u b, Sim X.K cA F β S H ∧ VR X.K F β v x ∧ VR X.K F β u y ∧ NQ S v u b ∧ Q (.bl (!b)) H
theorem op_eqT (hu : X.A.units + 65 < cLine) : OpR X (compareOp .Eq) (rEqT X cA) := by
  intro pins s σ H x y v u Q I rx ry ⟨F, β, S, va, ua, b, si, r1, r2, qe, q⟩
  exact qe.comp hu I si (Nat.le_refl _) r1 r2 rx ry ⟨.bl _, H, I, rfl, q⟩
theorem op_neT (hu : X.A.units + 65 < cLine) : OpR X (compareOp .NotEq) (rNeT X cA) := by
  intro pins s σ H x y v u Q I rx ry ⟨F, β, S, va, ua, b, si, r1, r2, qe, q⟩
  exact qe.comp hu I si r1 r2 rx ry ⟨.bl _, H, I, rfl, q⟩
end
section
variable {X : Cx} {cA : Str → Addr}
theorem cmp_ok {op : Cop} {op' : CmpOp} (hu1 : X.A.units + 65 < cLine) (h : copB op op' = true) : ∃ r, OpR X (compareOp op') r ∧ OpS X cA (wCmp op) r := by
  have hu : X.A.units + 64 < cLine := by omega
  unfold copB at h
  split at h
  · refine ⟨_, (op_eq.or (op_eqDD hu1)).or (op_eqD hu), fun F β S H v u x y Q s r1 r2 q => ?_⟩
    simp only [wCmp] at q
    rcases q with (⟨q1, q2⟩ | ⟨q1, q2⟩) | ⟨d, e, q1, q2, q3, q4, q5⟩
    · obtain ⟨z1, z2⟩ := scal_ok q1 r1 r2
      refine .inl (.inl ⟨z1, ?_⟩)
      rw [z2]
      exact post_here (v := .bl _) s rfl q2
    · obtain ⟨a, b, ks, ls, e1, e2, h1, h2, h3, h4⟩ := DEq.ok s q1 r1 r2
      exact .inl (.inr ⟨a, b, ks, ls, e1, e2, h1, h2, h3, h4, post_here (v := .bl _) s rfl q2⟩)
    · exact .inr ⟨d, e, DV.dp s q1 r1, DV.dp s q2 r2, q3, q4, post_here (v := .bl _) s rfl q5⟩
  · refine ⟨_, (op_ne.or (op_neDD hu1)).or (op_neD hu), fun F β S H v u x y Q s r1 r2 q => ?_⟩
    simp only [wCmp] at q
    rcases q with (⟨q1, q2⟩ | ⟨q1, q2⟩) | ⟨d, e, q1, q2, q3, q4, q5⟩
    · obtain ⟨z1, z2⟩ := scal_ok q1 r1 r2
      refine .inl (.inl ⟨z1, ?_⟩)
      rw [z2]
      exact post_here (v := .bl _) s rfl q2
    · obtain ⟨a, b, ks, ls, e1, e2, h1, h2, h3, h4⟩ := DEq.ok s q1 r1 r2
      exact .inl (.inr ⟨a, b, ks, ls, e1, e2, h1, h2, h3, h4, post_here (v := .bl _) s rfl q2⟩)
    · exact .inr ⟨d, e, DV.dp s q1 r1, DV.dp s q2 r2, q3, q4, post_here (v := .bl _) s rfl q5⟩
  · refine ⟨_, op_lt.or (op_ltD hu1), fun F β S H v u x y Q s r1 r2 q => ?_⟩
    unfold wCmp at q
    split at q <;> first | exact q.elim | skip
    all_goals simp only [reduceCtorEq] at *
    · cases r1; cases r2; exact .inl ⟨_, _, rfl, rfl, post_here (v := .bl _) s rfl q⟩
    · obtain ⟨d, e, q1, q2, q3, q4, q5⟩ := q
      exact .inr ⟨d, e, DV.dp s q1 r1, DV.dp s q2 r2, q3, q4, by cases q1; simp, post_here (v := .bl _) s rfl q5⟩
  · refine ⟨_, op_le, fun F β S H v u x y Q s r1 r2 q => ?_⟩
    unfold wCmp at q
    split at q <;> first | exact q.elim | skip
    all_goals simp only [reduceCtorEq] at *
    cases r1; cases r2; exact ⟨_, _, rfl, rfl, post_here (v := .bl _) s rfl q⟩
  · refine ⟨_, op_gt.or (op_gtD hu1), fun F β S H v u x y Q s r1 r2 q => ?_⟩
    unfold wCmp at q
    split at q <;> first | exact q.elim | skip
    all_goals simp only [reduceCtorEq] at *
    · cases r1; cases r2; exact .inl ⟨_, _, rfl, rfl, post_here (v := .bl _) s rfl q⟩
    · obtain ⟨d, e, q1, q2, q3, q4, q5⟩ := q
      exact .inr ⟨d, e, DV.dp s q1 r1, DV.dp s q2 r2, q3, q4, by cases q1; simp, post_here (v := .bl _) s rfl q5⟩
  · refine ⟨_, op_ge, fun F β S H v u x y Q s r1 r2 q => ?_⟩
    unfold wCmp at q
    split at q <;> first | exact q.elim | skip
    all_goals simp only [reduceCtorEq] at *
    cases r1; cases r2; exact ⟨_, _, rfl, rfl, post_here (v := .bl _) s rfl q⟩
  · refine ⟨_, ((op_in_sign.or (op_inD hu1)).or op_in_seq).or (op_din (by omega)), fun F β S H v u x y Q s r1 r2 q => ?_⟩
    have dic : ∀ {kvs : List (Key × Va)} {kk : Key}, LR S u kvs → keyV v = some kk → post X.K cA F β Q (.bl (dget kvs kk).isSome) S → ∃ a o, y = .ref a ∧ DGet H a x o ∧ Q (.bl o.isSome) H := fun {kvs kk} hd hk p => by
      obtain ⟨a, ys, rfl, e, qq⟩ := hd.ok s r2
      obtain ⟨v1, v2⟩ := qq.val kk
      refine ⟨a, valV ys kk, rfl, .inl ⟨ys, kk, e, kV_keyV hk r1, rfl⟩, ?_⟩
      cases hg : dget kvs kk with
      | none => rw [v2 hg]; rw [hg] at p; exact post_here (v := .bl _) s rfl p
      | some z => obtain ⟨w, e1, _⟩ := v1 z hg; rw [e1]; rw [hg] at p; exact post_here (v := .bl _) s rfl p
    unfold wCmp at q
    split at q <;> first | exact q.elim | skip
    all_goals simp only [reduceCtorEq] at *
    · cases r1; cases r2
      exact .inl (.inl (.inl ⟨_, _, by rw [← str1 q.1], rfl, post_here (v := .bl _) s rfl q.2⟩))
    · obtain ⟨q1, q2, q3⟩ := q
      obtain ⟨a, ys, rfl, t, qq⟩ := r2
      refine .inl (.inr ⟨a, ys, rfl, .inr (SqT.mono s.sub t), flat_ok q1 r1, flats_ok q2 qq, ?_⟩)
      rw [inW_ok q1 r1 q2 qq]
      exact post_here (v := .bl _) s rfl q3
    · obtain ⟨kk, h1, q⟩ := q
      exact .inr (dic (.inl (.inl rfl)) h1 q)
    · obtain ⟨o, h0, q⟩ := q
      unfold inO at q
      split at q
      · obtain ⟨d, ds, h1, h2, h3, h4, q⟩ := q
        rw [if_neg (by decide)] at q
        exact .inl (.inl (.inr ⟨d, ds, DV.dp s h1 r1, DV.dp s h2 r2, h3, h4, post_here (v := .bl _) s rfl q⟩))
      · obtain ⟨kk, h1, q⟩ := q
        rw [if_neg (by decide)] at q
        exact .inr (dic (.inl (.inr ⟨_, rfl, h0⟩)) h1 q)
      · obtain ⟨kk, h1, q⟩ := q
        rw [if_neg (by decide)] at q
        exact .inr (dic (.inr ⟨_, rfl, h0⟩) h1 q)
      · exact q.elim
    · obtain ⟨d, ds, h1, h2, h3, h4, q⟩ := q
      exact .inl (.inl (.inr ⟨d, ds, DV.dp s h1 r1, DV.dp s h2 r2, h3, h4, post_here (v := .bl _) s rfl q⟩))
  · refine ⟨_, ((op_notIn_sign.or (op_notInD hu1)).or op_notIn_seq).or (op_dnotin (by omega)), fun F β S H v u x y Q s r1 r2 q => ?_⟩
    have dic : ∀ {kvs : List (Key × Va)} {kk : Key}, LR S u kvs → keyV v = some kk → post X.K cA F β Q (.bl (!(dget kvs kk).isSome)) S → ∃ a o, y = .ref a ∧ DGet H a x o ∧ Q (.bl (!o.isSome)) H := fun {kvs kk} hd hk p => by
      obtain ⟨a, ys, rfl, e, qq⟩ := hd.ok s r2
      obtain ⟨v1, v2⟩ := qq.val kk
      refine ⟨a, valV ys kk, rfl, .inl ⟨ys, kk, e, kV_keyV hk r1, rfl⟩, ?_⟩
      cases hg : dget kvs kk with
      | none => rw [v2 hg]; rw [hg] at p; exact post_here (v := .bl _) s rfl p
      | some z => obtain ⟨w, e1, _⟩ := v1 z hg; rw [e1]; rw [hg] at p; exact post_here (v := .bl _) s rfl p
    unfold wCmp at q
    split at q <;> first | exact q.elim | skip
    all_goals simp only [reduceCtorEq] at *
    · cases r1; cases r2
      exact .inl (.inl (.inl ⟨_, _, by rw [← str1 q.1], rfl, post_here (v := .bl _) s rfl q.2⟩))
    · obtain ⟨kk, h1, q⟩ := q
      exact .inr (dic (.inl (.inl rfl)) h1 q)
    · obtain ⟨o, h0, q⟩ := q
      unfold inO at q
      split at q
      · obtain ⟨d, ds, h1, h2, h3, h4, q⟩ := q
        rw [if_pos rfl] at q
        exact .inl (.inl (.inr ⟨d, ds, DV.dp s h1 r1, DV.dp s h2 r2, h3, h4, post_here (v := .bl _) s rfl q⟩))
      · obtain ⟨kk, h1, q⟩ := q
        rw [if_pos rfl] at q
        exact .inr (dic (.inl (.inr ⟨_, rfl, h0⟩)) h1 q)
      · obtain ⟨kk, h1, q⟩ := q
        rw [if_pos rfl] at q
        exact .inr (dic (.inr ⟨_, rfl, h0⟩) h1 q)
      · exact q.elim
    · obtain ⟨q1, q2, q3⟩ := q
      obtain ⟨a, ys, rfl, t, qq⟩ := r2
      refine .inl (.inr ⟨a, ys, rfl, .inr (SqT.mono s.sub t), flat_ok q1 r1, flats_ok q2 qq, ?_⟩)
      rw [inW_ok q1 r1 q2 qq]
      exact post_here (v := .bl _) s rfl q3
    · obtain ⟨d, ds, h1, h2, h3, h4, q⟩ := q
      exact .inl (.inl (.inr ⟨d, ds, DV.dp s h1 r1, DV.dp s h2 r2, h3, h4, post_here (v := .bl _) s rfl q⟩))
  · refine ⟨_, op_is_bl, fun F β S H v u x y Q s r1 r2 q => ?_⟩
    unfold wCmp at q
    split at q <;> first | exact q.elim | skip
    all_goals simp only [reduceCtorEq] at *
    cases r1; cases r2; exact ⟨_, _, rfl, rfl, post_here (v := .bl _) s rfl q⟩
  · refine ⟨_, op_isnot_bl, fun F β S H v u x y Q s r1 r2 q => ?_⟩
    unfold wCmp at q
    split at q <;> first | exact q.elim | skip
    all_goals simp only [reduceCtorEq] at *
    cases r1; cases r2; exact ⟨_, _, rfl, rfl, post_here (v := .bl _) s rfl q⟩
  · refine ⟨_, op_eqT (cA := cA) hu1, fun F β S H v u x y Q s r1 r2 q => ?_⟩
    obtain ⟨b, q1, q2⟩ := (show ∃ b, _ from q)
    exact ⟨F, β, S, v, u, b, s, r1, r2, q1, post_here (v := .bl _) s rfl q2⟩
  · refine ⟨_, op_neT (cA := cA) hu1, fun F β S H v u x y Q s r1 r2 q => ?_⟩
    obtain ⟨b, q1, q2⟩ := (show ∃ b, _ from q)
    exact ⟨F, β, S, v, u, b, s, r1, r2, q1, post_here (v := .bl _) s rfl q2⟩
  · cases h
/-- a comparison gives a truth -/
theorem wCmp_bl {op : Cop} {v u : Va} {S : Sto} {P : PV} (h : wCmp op v u S P) : wCmp op v u S fun z S' => (∃ b, z = .bl b) ∧ P z S' := by
  unfold wCmp at h ⊢
  split at h <;> first | exact h.elim | exact ⟨⟨_, rfl⟩, h⟩ | exact ⟨h.1, ⟨_, rfl⟩, h.2⟩ | exact ⟨h.1, h.2.1, ⟨_, rfl⟩, h.2.2⟩ | (obtain ⟨d, ds, h1, h2, h3, h4, q⟩ := h; exact ⟨d, ds, h1, h2, h3, h4, ⟨_, rfl⟩, q⟩) | (obtain ⟨kk, h1, q⟩ := h; exact ⟨kk, h1, ⟨_, rfl⟩, q⟩) | (rcases h with (⟨h1, h2⟩ | ⟨h1, h2⟩) | ⟨d, e, h1, h2, h3, h4, h5⟩; exact .inl (.inl ⟨h1, ⟨_, rfl⟩, h2⟩); exact .inl (.inr ⟨h1, ⟨_, rfl⟩, h2⟩); exact .inr ⟨d, e, h1, h2, h3, h4, ⟨_, rfl⟩, h5⟩) | skip
  all_goals
    obtain ⟨o, h0, q⟩ := h
    refine ⟨o, h0, ?_⟩
    unfold inO at q ⊢
    split at q <;> first | exact q.elim | (obtain ⟨d, ds, h1, h2, h3, h4, q⟩ := q; exact ⟨d, ds, h1, h2, h3, h4, ⟨_, rfl⟩, q⟩) | (obtain ⟨kk, h1, q⟩ := q; exact ⟨kk, h1, ⟨_, rfl⟩, q⟩)
end
end AM
end

section
set_option linter.all false
set_option maxRecDepth 100000
set_option maxHeartbeats 2100000
/-! AM, between: list(reversed(a list)). -/
namespace AM
open PySem PySem.Spec PyProof.Rows L2 RT
section
variable {s : Shared} {prog : Program} {w : World} {A : Around} {E : Value → Shared → Prop}
/-- what a list takes from a walk backwards -/
theorem ext_rev {R : Result → Shared → Prop} {it l : Addr} {vs0 : Array Value} (hq0 : A.handled = none) (hr : s.heap.IsRevIter it l ((vs0.size : Int) - 1)) (hb0 : s.heap.IsList l vs0) (hd0 : l ≠ it) (hz0 : vs0.size ≤ sizeLine) (Z : Addr) (res : Value) (c₀ : Nat)
    (hZi : Z ≠ it) (hZl : Z ≠ l) (hZ : s.heap.get? Z = some { cls := .type "list", data := .seq #[] c₀ })
    (hR : ∀ h' tk acc' c', (∀ b o, b ≠ Z → b ≠ it → s.heap.get? b = some o → h'.get? b = some o) → h'.get? Z = some { cls := .type "list", dict := none, data := .seq acc' c', slots := #[] } →
      ItemsOf (fun i v => vs0[vs0.size - 1 - i]? = some v) acc' vs0.size → R (.ok (.ret res)) { s with heap := h', toks := tk }) :
    wpAny (model prog w) A.in1 (Builtin.List.listExtendWith (.ref Z) (.ref it) res)
      (fun fin s' => match fin with | .done f => R (.ok f) s' | .again c' => c'.quiet = true ∧ codeAny (model prog w) A c' R s') (fun e s' => R (.error e) s') s := by
  have Wk := (Walks.listRev (prog := prog) (w := w) (A := A.in1) hq0 it l hd0 vs0).toS
  have hZf : Z ∉ [it, l] := by simp only [List.mem_cons, List.not_mem_nil, or_false, not_or]; exact ⟨hZi, hZl⟩
  have hty : s.TypeIs (.ref it) "list_reverseiterator" := hr.typeIs
  have h1 : Builtin.List.listSameRef (.ref Z) (.ref it) = false := by simp [Builtin.List.listSameRef, hZi]
  unfold Builtin.List.listExtendWith
  refine wpAny_bind (wpAny_typeOf hty ?_)
  rw [if_neg (by rw [h1]; decide)]
  refine wpAny_bind (wpAny_pyIter_revIter hr ?_)
  refine wpAny_bind (wpAny_holding ?_)
  unfold Builtin.List.listLengthHint
  refine wpAny_bind (wpAny_specialOf hty nolen_lri ?_)
  show wpAny _ A.in1 (specialOf (Value.ref it) (Str.ofString "__length_hint__") >>= _) _ _ _
  refine wpAny_bind (wpAny_specialOf hty hint_lri ?_)
  generalize hie : ("list_reverseiterator.__length_hint__" : String) = idh
  wp_delta
  rw [show splitId idh = some ("list_reverseiterator", "__length_hint__") from by subst hie; decide +kernel]
  subst hie
  refine wpAny_bind (wpAny_isInstance (b := true) hty (by rw [isSubtype_type]; kernel_rfl) ?_)
  refine wpAny_pure ?_
  rw [if_neg (by decide)]
  have en : ((vs0.size : Nat) : Int) - 1 - ((0 : Nat) : Int) = (vs0.size : Int) - 1 := by omega
  refine wpAny_pure ⟨plainId_quiet F.plain_extend_loop _, codeAny_extend_loopS Wk hz0 _ hZf _ vs0.size 0 _ _ _ rfl (Nat.zero_le _) ⟨Nat.zero_le _, by rw [en]; exact hr, hb0⟩ hZ (ItemsOf.nil _) fun s' acc' c' hm hs2' hacc => ?_⟩
  rw [Moved.eq_with hm]
  refine hR s'.heap s'.toks acc' c' (fun b o hb hb2 e => hm.heap b o (fun hmm => ?_) e) hs2' hacc
  rcases List.mem_cons.mp hmm with e' | hmm
  · exact hb e'
  · exact hb2 (List.mem_singleton.mp hmm)
theorem init_rev {R : Result → Shared → Prop} {it l : Addr} {vs0 : Array Value} (hq0 : A.handled = none) (hr : s.heap.IsRevIter it l ((vs0.size : Int) - 1)) (hb0 : s.heap.IsList l vs0) (hd0 : l ≠ it) (hz0 : vs0.size ≤ sizeLine) (Z : Addr)
    (hZi : Z ≠ it) (hZl : Z ≠ l) (hZ : s.heap.get? Z = some { cls := .type "list", data := .seq #[] })
    (hR : ∀ h' tk acc' c', (∀ b o, b ≠ Z → b ≠ it → s.heap.get? b = some o → h'.get? b = some o) → h'.get? Z = some { cls := .type "list", dict := none, data := .seq acc' c', slots := #[] } →
      ItemsOf (fun i v => vs0[vs0.size - 1 - i]? = some v) acc' vs0.size → R (.ok (.ret .none)) { s with heap := h', toks := tk }) :
    wpAny (model prog w) A.in1 (Builtin.«list.__init__» ⟨[.ref Z, .ref it], []⟩)
      (fun fin s' => match fin with | .done f => R (.ok f) s' | .again c' => c'.quiet = true ∧ codeAny (model prog w) A c' R s') (fun e s' => R (.error e) s') s := by
  show wpAny _ _ (do let old ← Builtin.List.listItems (.ref Z); Builtin.List.listUpdate (.ref Z) (fun _ => #[]); letGo old.toList.reverse; Builtin.List.listExtendWith (.ref Z) (.ref it) .none) _ _ s
  refine wpAny_bind ?_
  unfold Builtin.List.listItems
  refine wpAny_bind (wpAny_seqItems hZ rfl (wpAny_pure ?_))
  show wpAny _ _ (updateSeq Z (fun _ => #[]) >>= fun _ => letGo (#[] : Array Value).toList.reverse >>= fun _ => Builtin.List.listExtendWith (.ref Z) (.ref it) .none) _ _ s
  refine wpAny_bind (wpAny_updateSeq hZ rfl ?_)
  have hZ2 := Heap.get?_update_self (Obj.mapSeq (fun _ => (#[] : Array Value))) hZ rfl
  have els : ∀ b o, b ≠ Z → s.heap.get? b = some o → (s.heap.update Z (Obj.mapSeq (fun _ => (#[] : Array Value)))).get? b = some o :=
    fun b o hb e => (Heap.get?_update_other _ _ (Ne.symm hb)).trans e
  refine wpAny_bind (wpAny_letGo ?_)
  refine ext_rev (s := { s with heap := s.heap.update Z (Obj.mapSeq (fun _ => (#[] : Array Value))) }) hq0 (hr.at fun o e => els _ _ hZi.symm e) (hb0.at fun o e => els _ _ hZl.symm e) hd0 hz0 Z .none _ hZi hZl hZ2 fun h' tk acc' c' hk hs2' hacc => ?_
  exact hR h' tk acc' c' (fun b o hb hb2 e => hk b o hb hb2 (els b o hb e)) hs2' hacc
theorem call_list_rev {Q : Value → Shared → Prop} {it l : Addr} {vs0 : Array Value} (hq0 : A.handled = none) (hr : s.heap.IsRevIter it l ((vs0.size : Int) - 1)) (hb0 : s.heap.IsList l vs0) (hd0 : l ≠ it) (hz0 : vs0.size ≤ sizeLine)
    (hQ : ∀ h' tk acc' c', (∀ b o, b ≠ it → s.heap.get? b = some o → h'.get? b = some o) →
      h'.get? s.heap.objs.size = some { cls := .type "list", dict := none, data := .seq acc' c', slots := #[] } → ItemsOf (fun i v => vs0[vs0.size - 1 - i]? = some v) acc' vs0.size → Q (.ref s.heap.objs.size) { s with heap := h', toks := tk }) :
    wpAny (model prog w) A (PySem.call (.type "list") [.ref it]) Q E s := by
  obtain ⟨oi, hoi, _⟩ := id hr
  obtain ⟨ol, hol, _⟩ := id hb0
  have hZi : s.heap.objs.size ≠ it := Nat.ne_of_gt (Heap.lt_size hoi)
  have hZl : s.heap.objs.size ≠ l := Nat.ne_of_gt (Heap.lt_size hol)
  refine callType_codes (Q₁ := fun obj s₁ => obj = .ref s.heap.objs.size ∧ s₁ = { s with heap := s.heap.push { cls := .type "list", data := .seq #[] } }) F.called_list (F.typeCall_list_1 _) F.entry_list_init
    (code_list_new _ ⟨rfl, rfl⟩) fun obj s₁ h₁ => ?_
  obtain ⟨rfl, rfl⟩ := h₁
  have hZ : (s.heap.push { cls := .type "list", data := .seq #[] }).get? s.heap.objs.size = some { cls := .type "list", data := .seq #[] } := Heap.get?_push_size _ rfl
  refine ⟨⟨_, hZ, rfl⟩, F.args_list_init_2 _ _, init_rev (A := A.in1) (s := { s with heap := s.heap.push { cls := .type "list", data := .seq #[] } }) hq0 (hr.at fun o e => Heap.get?_push_of_some _ e) (hb0.push _) hd0 hz0 _ hZi hZl hZ fun h' tk acc' c' hk hs2' hacc => ?_⟩
  exact ⟨rfl, hQ h' tk acc' c' (fun b o hb e => hk b o (Nat.ne_of_lt (Heap.lt_size e)) hb (Heap.get?_push_of_some _ e)) hs2' hacc⟩
end
section
variable {s : Shared} {prog : Program} {w : World} {A : Around} {E : Value → Shared → Prop}
/-! ### list(reversed(a tuple)) -/
theorem tupAt {h h' : Heap} {a : Addr} {items : Array Value} (x : IsTup h a items) (e : ∀ o, h.get? a = some o → h'.get? a = some o) : IsTup h' a items := let ⟨o, ho, r⟩ := x; ⟨o, e _ ho, r⟩
theorem nolen_rt : typeLookup (.type "reversed") "__len__" = pure none := by rw [typeLookup_type, builtinLookup_eq_fast]; kernel_rfl
theorem slot_rt_hint : Slot "reversed" "__length_hint__" "reversed.__length_hint__" :=
  .of (owner := "reversed") (n := "__length_hint__") (by rw [typeLookup_type, builtinLookup_eq_fast]; kernel_rfl) (by decide +kernel) (by decide +kernel) (by decide +kernel)
    (by first | exact .inl (by decide +kernel) | exact .inr (by decide +kernel)) (by rw [isSubtype_type]; kernel_rfl)
theorem entry_rt_hint : entryFor table "reversed.__length_hint__" = some Builtin.«reversed.__length_hint__» := entryFor_of_tree (by kernel_rfl)
theorem args_rt_hint (a : Value) : argsOk "reversed.__length_hint__" ⟨[a], []⟩ := by
  unfold argsOk; rw [signature?_of (id := "reversed.__length_hint__") (n := ['_', '_', 't', 'n', 'i', 'h', '_', 'h', 't', 'g', 'n', 'e', 'l', '_', '_']) (o := ['d', 'e', 's', 'r', 'e', 'v', 'e', 'r']) (by kernel_rfl) owner_rt]; kernel_rfl
theorem Walks.tupRev {prog : Program} {w : World} {A : Around} (hh : A.handled = none) (I l : Addr) (hne : l ≠ I) (items : Array Value) (hsz : items.size ≤ sizeLine) :
    Walks prog w A I [I, l] [I] items.size (fun i v => items[items.size - 1 - i]? = some v) (fun i h => i ≤ items.size ∧ IsRt h I l ((items.size : Int) - 1 - (i : Int)) ∧ IsTup h l items) where
  sub := fun b hb => by simp at hb; simp [hb]
  frame := fun _ _ _ x hk => ⟨x.1, x.2.1.at fun o e => hk I (by simp) o e, tupAt x.2.2 fun o e => hk l (by simp) o e⟩
  item := fun i s Q E hi x hQ => by
    have e : (items.size : Int) - 1 - (i : Int) = ((items.size - 1 - i : Nat) : Int) := by omega
    have hit := x.2.1
    rw [e] at hit
    have hx : items[items.size - 1 - i]? = some (items[items.size - 1 - i]'(by omega)) := Array.getElem?_eq_getElem (by omega)
    refine next_rt_item hit x.2.2 hx hsz fun h' hit' hs' => ?_
    have e2 : ((items.size - 1 - i : Nat) : Int) - 1 = (items.size : Int) - 1 - ((i + 1 : Nat) : Int) := by omega
    rw [e2] at hit'
    exact hQ _ h' (s.toks + 1) hx ⟨hi, hit', tupAt x.2.2 fun o eo => (hs'.2 l hne).trans eo⟩ fun b o hb eo => hs'.extBut b o (fun h => hb (by simp [h])) eo
  done := fun s Q E x hQ => by
    have e : (items.size : Int) - 1 - (items.size : Int) = -1 := by omega
    have hit := x.2.1
    rw [e] at hit
    exact next_rt_end hh hit fun h' he' => hQ h' s.toks fun b o hb eo => he' b o (fun h => hb (by simp [h])) eo
  self := fun _ _ _ _ x hQ => iter_rt x.2.1 hQ
theorem ext_revT {R : Result → Shared → Prop} {it l : Addr} {vs0 : Array Value} (hq0 : A.handled = none) (hr : IsRt s.heap it l ((vs0.size : Int) - 1)) (hb0 : IsTup s.heap l vs0) (hd0 : l ≠ it) (hz0 : vs0.size ≤ sizeLine) (Z : Addr) (res : Value) (c₀ : Nat)
    (hZi : Z ≠ it) (hZl : Z ≠ l) (hZ : s.heap.get? Z = some { cls := .type "list", data := .seq #[] c₀ })
    (hR : ∀ h' tk acc' c', (∀ b o, b ≠ Z → b ≠ it → s.heap.get? b = some o → h'.get? b = some o) → h'.get? Z = some { cls := .type "list", dict := none, data := .seq acc' c', slots := #[] } →
      ItemsOf (fun i v => vs0[vs0.size - 1 - i]? = some v) acc' vs0.size → R (.ok (.ret res)) { s with heap := h', toks := tk }) :
    wpAny (model prog w) A.in1 (Builtin.List.listExtendWith (.ref Z) (.ref it) res)
      (fun fin s' => match fin with | .done f => R (.ok f) s' | .again c' => c'.quiet = true ∧ codeAny (model prog w) A c' R s') (fun e s' => R (.error e) s') s := by
  have Wk := (Walks.tupRev (prog := prog) (w := w) (A := A.in1) hq0 it l hd0 vs0 hz0).toS
  have hZf : Z ∉ [it, l] := by simp only [List.mem_cons, List.not_mem_nil, or_false, not_or]; exact ⟨hZi, hZl⟩
  have hty : s.TypeIs (.ref it) "reversed" := hr.typeIs
  have h1 : Builtin.List.listSameRef (.ref Z) (.ref it) = false := by simp [Builtin.List.listSameRef, hZi]
  unfold Builtin.List.listExtendWith
  refine wpAny_bind (wpAny_typeOf hty ?_)
  rw [if_neg (by rw [h1]; decide)]
  refine wpAny_bind (iter_rt hr ?_)
  refine wpAny_bind (wpAny_holding ?_)
  unfold Builtin.List.listLengthHint
  refine wpAny_bind (wpAny_specialOf hty nolen_rt ?_)
  show wpAny _ A.in1 (specialOf (Value.ref it) (Str.ofString "__length_hint__") >>= _) _ _ _
  refine wpAny_bind (wpAny_specialOf hty slot_rt_hint.lookup ?_)
  generalize hie : ("reversed.__length_hint__" : String) = idh
  wp_delta
  rw [show splitId idh = some ("reversed", "__length_hint__") from by subst hie; decide +kernel]
  subst hie
  refine wpAny_bind (wpAny_isInstance (b := true) hty (by rw [isSubtype_type]; kernel_rfl) ?_)
  rw [if_neg (by decide)]
  rw [if_neg (by decide +kernel)]
  refine wpAny_bind (wpAny_rule ?_)
  simp only [slot_rt_hint.bind]
  refine wpAny_bind (wpAny_pure ?_)
  try dsimp only
  obtain ⟨o, ho, hc, hd⟩ := id hr
  refine wpAny_bind (wpAny_attempt (wpAny_call_entry slot_rt_hint hty entry_rt_hint ?_ (args_rt_hint _)))
  unfold Builtin.«reversed.__length_hint__»
  refine wpAny_bind (wpAny_of_eq (a := Value.ref it) rfl ?_)
  try dsimp only
  refine wpAny_bind (wpAny_field ho hd (x := .ref l) rfl ?_)
  try dsimp only
  rw [if_neg (by simp)]
  refine wpAny_bind (len_tuple hb0 (by have : sizeLine = 16777216 := by decide
                                       omega) ?_)
  refine wpAny_bind (wpAny_of_eq (a := some ((vs0.size : Nat) : Int)) rfl ?_)
  try dsimp only
  refine wpAny_bind (wpAny_field (s := { s with toks := s.toks + 1 + 1 }) ho hd (x := rawInt ((vs0.size : Int) - 1)) rfl ?_)
  show wpAny _ _ (if ((vs0.size : Nat) : Int) < (vs0.size : Int) - 1 + 1 then _ else _) _ _ _
  rw [if_neg (by omega)]
  have e1 : (vs0.size : Int) - 1 + 1 = ((vs0.size : Nat) : Int) := by omega
  rw [e1]
  unfold retInt
  refine wpAny_bind (wpAny_mkInt (wpAny_pure ⟨_, rfl, ?_⟩))
  have hsz : sizeLine = 16777216 := by decide
  dsimp only
  refine wpAny_bind ?_
  rw [show asInt? (Value.int ((vs0.size : Nat) : Int) (s.toks + 1 + 1)) = pure (some ((vs0.size : Nat) : Int)) from rfl]
  refine wpAny_pure ?_
  try dsimp only
  have hlong : Builtin.List.listTooLong ((vs0.size : Nat) : Int).toNat = false := by
    unfold Builtin.List.listTooLong
    rw [Int.toNat_natCast]
    simp
    omega
  have hfit : Builtin.List.listFitsIndex ((vs0.size : Nat) : Int) = true := by
    unfold Builtin.List.listFitsIndex
    rw [Bool.and_eq_true, decide_eq_true_iff, decide_eq_true_iff]
    omega
  rw [if_neg (by rw [hfit]; decide)]
  rw [if_neg (by omega)]
  rw [if_neg (by rw [hlong]; decide)]
  refine wpAny_pure ?_
  have en : ((vs0.size : Nat) : Int) - 1 - ((0 : Nat) : Int) = (vs0.size : Int) - 1 := by omega
  by_cases hz : vs0.size = 0
  · rw [if_neg (by rw [hz]; decide)]
    refine wpAny_pure ⟨plainId_quiet F.plain_extend_loop _, codeAny_extend_loopS Wk hz0 _ hZf _ vs0.size 0 _ _ _ rfl (Nat.zero_le _) ⟨Nat.zero_le _, by rw [en]; exact hr, hb0⟩ hZ (ItemsOf.nil _) fun s' acc' c' hm hs2' hacc => ?_⟩
    rw [Moved.eq_with hm]
    refine hR s'.heap s'.toks acc' c' (fun b o hb hb2 e => hm.heap b o (fun hmm => ?_) e) hs2' hacc
    rcases List.mem_cons.mp hmm with e' | hmm
    · exact hb e'
    · exact hb2 (List.mem_singleton.mp hmm)
  · rw [if_pos (by rw [Bool.or_eq_true]; exact .inl (by rw [bne_iff_ne]; omega))]
    refine wpAny_bind (wpAny_rule ?_)
    refine wpAny_bind ?_
    clear hsz hlong hfit e1
    show wpAny _ A.in1 (updateSeq Z (·.push .none) >>= fun _ => updateSeq Z (·.pop)) _ _ _
    refine wpAny_bind (wpAny_updateSeq hZ rfl ?_)
    have hS₂ := Heap.get?_update_self (Obj.mapSeq (·.push Value.none)) hZ rfl
    refine wpAny_updateSeq (hz := by seq_fits) hS₂ rfl ?_
    have hS₃ := Heap.get?_update_self (Obj.mapSeq (·.pop)) hS₂ rfl
    have oth : ∀ b o, b ≠ Z → s.heap.get? b = some o → ((s.heap.update Z (Obj.mapSeq (·.push Value.none))).update Z (Obj.mapSeq (·.pop))).get? b = some o :=
      fun b o hb e => (Heap.get?_update_other _ _ (Ne.symm hb)).trans ((Heap.get?_update_other _ _ (Ne.symm hb)).trans e)
    refine wpAny_pure ⟨plainId_quiet F.plain_extend_loop _, codeAny_extend_loopS Wk hz0 _ hZf _ vs0.size 0 _ _ _ rfl (Nat.zero_le _)
      ⟨Nat.zero_le _, by rw [en]; exact hr.at fun o e => oth _ o hZi.symm e, tupAt hb0 fun o e => oth _ o hZl.symm e⟩ hS₃ (ItemsOf.nil _) fun s' acc' c' hm hs2' hacc => ?_⟩
    rw [Moved.eq_with hm]
    refine hR s'.heap s'.toks acc' c' (fun b o hb hb2 e => hm.heap b o (fun hmm => ?_) (oth b o hb e)) hs2' hacc
    rcases List.mem_cons.mp hmm with e' | hmm
    · exact hb e'
    · exact hb2 (List.mem_singleton.mp hmm)
theorem init_revT {R : Result → Shared → Prop} {it l : Addr} {vs0 : Array Value} (hq0 : A.handled = none) (hr : IsRt s.heap it l ((vs0.size : Int) - 1)) (hb0 : IsTup s.heap l vs0) (hd0 : l ≠ it) (hz0 : vs0.size ≤ sizeLine) (Z : Addr)
    (hZi : Z ≠ it) (hZl : Z ≠ l) (hZ : s.heap.get? Z = some { cls := .type "list", data := .seq #[] })
    (hR : ∀ h' tk acc' c', (∀ b o, b ≠ Z → b ≠ it → s.heap.get? b = some o → h'.get? b = some o) → h'.get? Z = some { cls := .type "list", dict := none, data := .seq acc' c', slots := #[] } →
      ItemsOf (fun i v => vs0[vs0.size - 1 - i]? = some v) acc' vs0.size → R (.ok (.ret .none)) { s with heap := h', toks := tk }) :
    wpAny (model prog w) A.in1 (Builtin.«list.__init__» ⟨[.ref Z, .ref it], []⟩)
      (fun fin s' => match fin with | .done f => R (.ok f) s' | .again c' => c'.quiet = true ∧ codeAny (model prog w) A c' R s') (fun e s' => R (.error e) s') s := by
  show wpAny _ _ (do let old ← Builtin.List.listItems (.ref Z); Builtin.List.listUpdate (.ref Z) (fun _ => #[]); letGo old.toList.reverse; Builtin.List.listExtendWith (.ref Z) (.ref it) .none) _ _ s
  refine wpAny_bind ?_
  unfold Builtin.List.listItems
  refine wpAny_bind (wpAny_seqItems hZ rfl (wpAny_pure ?_))
  show wpAny _ _ (updateSeq Z (fun _ => #[]) >>= fun _ => letGo (#[] : Array Value).toList.reverse >>= fun _ => Builtin.List.listExtendWith (.ref Z) (.ref it) .none) _ _ s
  refine wpAny_bind (wpAny_updateSeq hZ rfl ?_)
  have hZ2 := Heap.get?_update_self (Obj.mapSeq (fun _ => (#[] : Array Value))) hZ rfl
  have els : ∀ b o, b ≠ Z → s.heap.get? b = some o → (s.heap.update Z (Obj.mapSeq (fun _ => (#[] : Array Value)))).get? b = some o :=
    fun b o hb e => (Heap.get?_update_other _ _ (Ne.symm hb)).trans e
  refine wpAny_bind (wpAny_letGo ?_)
  refine ext_revT (s := { s with heap := s.heap.update Z (Obj.mapSeq (fun _ => (#[] : Array Value))) }) hq0 (hr.at fun o e => els _ _ hZi.symm e) (tupAt hb0 fun o e => els _ _ hZl.symm e) hd0 hz0 Z .none _ hZi hZl hZ2 fun h' tk acc' c' hk hs2' hacc => ?_
  exact hR h' tk acc' c' (fun b o hb hb2 e => hk b o hb hb2 (els b o hb e)) hs2' hacc
theorem call_list_revT {Q : Value → Shared → Prop} {it l : Addr} {vs0 : Array Value} (hq0 : A.handled = none) (hr : IsRt s.heap it l ((vs0.size : Int) - 1)) (hb0 : IsTup s.heap l vs0) (hd0 : l ≠ it) (hz0 : vs0.size ≤ sizeLine)
    (hQ : ∀ h' tk acc' c', (∀ b o, b ≠ it → s.heap.get? b = some o → h'.get? b = some o) →
      h'.get? s.heap.objs.size = some { cls := .type "list", dict := none, data := .seq acc' c', slots := #[] } → ItemsOf (fun i v => vs0[vs0.size - 1 - i]? = some v) acc' vs0.size → Q (.ref s.heap.objs.size) { s with heap := h', toks := tk }) :
    wpAny (model prog w) A (PySem.call (.type "list") [.ref it]) Q E s := by
  obtain ⟨oi, hoi, _⟩ := id hr
  obtain ⟨ol, hol, _⟩ := id hb0
  have hZi : s.heap.objs.size ≠ it := Nat.ne_of_gt (Heap.lt_size hoi)
  have hZl : s.heap.objs.size ≠ l := Nat.ne_of_gt (Heap.lt_size hol)
  refine callType_codes (Q₁ := fun obj s₁ => obj = .ref s.heap.objs.size ∧ s₁ = { s with heap := s.heap.push { cls := .type "list", data := .seq #[] } }) F.called_list (F.typeCall_list_1 _) F.entry_list_init
    (code_list_new _ ⟨rfl, rfl⟩) fun obj s₁ h₁ => ?_
  obtain ⟨rfl, rfl⟩ := h₁
  have hZ : (s.heap.push { cls := .type "list", data := .seq #[] }).get? s.heap.objs.size = some { cls := .type "list", data := .seq #[] } := Heap.get?_push_size _ rfl
  refine ⟨⟨_, hZ, rfl⟩, F.args_list_init_2 _ _, init_revT (A := A.in1) (s := { s with heap := s.heap.push { cls := .type "list", data := .seq #[] } }) hq0 (hr.at fun o e => Heap.get?_push_of_some _ e) (tupAt hb0 fun o e => Heap.get?_push_of_some _ e) hd0 hz0 _ hZi hZl hZ fun h' tk acc' c' hk hs2' hacc => ?_⟩
  exact ⟨rfl, hQ h' tk acc' c' (fun b o hb e => hk b o (Nat.ne_of_lt (Heap.lt_size e)) hb (Heap.get?_push_of_some _ e)) hs2' hacc⟩
end
/-- list(reversed(x)), x a list or a tuple: a new list -/
def tLstRev (K : PySem.W.Frag) (te : TE) : TE := fun σ H Q => te σ H fun v H1 => ∃ (a : Addr) (xs : List V), v = .ref a ∧ (SqL K H1 a xs ∨ SqT K H1 a xs) ∧ ∀ q, H1 q = none → Q (.ref q) (upd H1 q (.lst xs.reverse))
theorem vals_turned {xs : List V} {ws : List Value} {aa : Array Value} (r : Vals xs ws) (h : ItemsOf (fun i v => ws.toArray[ws.toArray.size - 1 - i]? = some v) aa ws.toArray.size) : Vals xs.reverse aa.toList := by
  have hs : ws.toArray.size = ws.length := List.size_toArray
  have hb0 : aa.toList.length = ws.length := by rw [Array.length_toList, h.1, hs]
  have e : aa.toList = ws.reverse := by
    refine List.ext_getElem? fun j => ?_
    by_cases hj : j < ws.length
    · have e1 : aa.toList[j]? = some (aa.toList[j]'(by omega)) := List.getElem?_eq_getElem (by omega)
      have e2 := h.2 j _ ((Array.getElem?_toList ..).symm.trans e1)
      rw [e1, List.getElem?_reverse hj, ← e2, hs]
      simp
    · rw [List.getElem?_eq_none (by omega), List.getElem?_eq_none (by rw [List.length_reverse]; omega)]
  rw [e]
  exact r.reverse
section
variable {X : Cx}
theorem pe_listRev {e : Expr} {te : TE} {p p2 pos pos2 : Pos} (hc : X.calm = true) (hg : Gl X "list") (hm : X.mg "list" = none) (hg2 : Gl X "reversed") (hm2 : X.mg "reversed" = none) (he : PE X e te)
    (hs : starEach [e] X.env = (false, eval e X.env) :: starEach [] X.env)
    (hs2 : starEach [.Call (.Name "reversed" p2) [e] [] pos2] X.env = (false, eval (.Call (.Name "reversed" p2) [e] [] pos2) X.env) :: starEach [] X.env := by rfl) :
    PE X (.Call (.Name "list" p) [.Call (.Name "reversed" p2) [e] [] pos2] [] pos) (tLstRev X.K te) := by
  refine ⟨fun pins s σ H Q I h => ?_⟩
  refine Call_ (ld_blt I hg hm boot_list (PyProof.Rows.callWith_type1 (args_cons (Call_ (ld_blt I hg2 hm2 PyProof.Rows.boot_reversed (PyProof.Rows.callWith_type1 (args_cons (thn (he.run pins s σ H _ I h) fun u t1 ⟨v, H1, J1, r1, q1⟩ => args_nil ?_) hs) hs rfl))) hs2) hs2 rfl))
  obtain ⟨a, xs, rfl, hq | hq, q⟩ := q1
  rotate_left
  · obtain rfl : u = Value.ref a := r1
    obtain ⟨ws, rr, hb0, hz⟩ := J1.tuple hq
    have hz0 : ws.toArray.size ≤ sizeLine := by rw [List.size_toArray, ← rr.length]; exact hz
    have hz9 : (ws.toArray.size : Int) < 2 ^ 63 := by
      have : sizeLine = 16777216 := by decide
      omega
    refine call_reversed_tup hb0 (fun A E Q k => len_tuple hb0 hz9 k) (args_nil ?_)
    have ka : ∀ b o, t1.heap.get? b = some o → (t1.heap.push (rtObj a ((ws.toArray.size : Int) - 1))).get? b = some o := fun b o e => Heap.get?_push_of_some _ e
    have hd0 : a ≠ t1.heap.objs.size := Nat.ne_of_lt hb0.lt
    refine call_list_revT (s := { t1 with heap := t1.heap.push (rtObj a ((ws.toArray.size : Int) - 1)), toks := t1.toks + 1 + 1 }) (J1.ok.hd hc) ⟨_, Heap.get?_push_size _ rfl, rfl, rfl⟩ (hb0.push _) hd0 hz0 fun h' tk aa c' hk e' hi => ?_
    have hsz : t1.heap.objs.size ≤ (t1.heap.push (rtObj a ((ws.toArray.size : Int) - 1))).objs.size := by simp [Heap.push]
    have hk2 : ∀ b o, t1.heap.get? b = some o → h'.get? b = some o := fun b o e => hk b o (Nat.ne_of_lt (Heap.lt_size e)) (ka b o e)
    exact ⟨.ref (t1.heap.push (rtObj a ((ws.toArray.size : Int) - 1))).objs.size, upd H1 (t1.heap.push (rtObj a ((ws.toArray.size : Int) - 1))).objs.size (.lst xs.reverse), J1.laid (t' := tk) hk2 hsz (show ObjOk X.prog X.w _ _ _ (.lst xs.reverse) from ⟨by rw [List.length_reverse]; exact hz, aa.toList, c', vals_turned rr hi, by rw [Array.toArray_toList]; exact e'⟩), rfl, q _ (J1.hok.fresh hsz)⟩
  obtain rfl : u = Value.ref a := r1
  obtain ⟨ws, rr, pl, hz⟩ := J1.list hq
  refine call_reversed_list pl.isList (args_nil ?_)
  have ka : ∀ b o, t1.heap.get? b = some o → (t1.heap.push (revObj a ((ws.toArray.size : Int) - 1))).get? b = some o := fun b o e => Heap.get?_push_of_some _ e
  obtain ⟨g0, f1, f2, f3, f4, f5⟩ := J1.fpOk (H' := H1) (b := t1.heap.objs.size) (Nat.le_refl _) (J1.hok.fresh (Nat.le_refl _))
  have hb0 := pl.isList
  obtain ⟨ol, hol, _⟩ := id hb0
  have hd0 : a ≠ t1.heap.objs.size := Nat.ne_of_lt (Heap.lt_size hol)
  have hz0 : ws.toArray.size ≤ sizeLine := by rw [List.size_toArray, ← rr.length]; exact hz
  refine call_list_rev (s := { t1 with heap := t1.heap.push (revObj a ((ws.toArray.size : Int) - 1)) }) (J1.ok.hd hc) ⟨_, Heap.get?_push_size _ rfl, rfl, rfl⟩ (hb0.push _) hd0 hz0 fun h' tk aa c' hk e' hi => ?_
  have J2 : Inv X pins σ H1 { t1 with heap := t1.heap.push (revObj a ((ws.toArray.size : Int) - 1)) } := J1.kept (t' := t1.toks) ka
  have hsz : t1.heap.objs.size ≤ (t1.heap.push (revObj a ((ws.toArray.size : Int) - 1))).objs.size := by simp [Heap.push]
  have hk2 : ∀ b o, t1.heap.get? b = some o → h'.get? b = some o := fun b o e => hk b o (Nat.ne_of_lt (Heap.lt_size e)) (ka b o e)
  refine ⟨.ref (t1.heap.push (revObj a ((ws.toArray.size : Int) - 1))).objs.size, upd H1 (t1.heap.push (revObj a ((ws.toArray.size : Int) - 1))).objs.size (.lst xs.reverse), J1.laid (t' := tk) hk2 hsz (show ObjOk X.prog X.w _ _ _ (.lst xs.reverse) from ⟨by rw [List.length_reverse]; exact hz, aa.toList, c', vals_turned rr hi, by rw [Array.toArray_toList]; exact e'⟩), rfl, q _ (J1.hok.fresh hsz)⟩
end
/-! ### enumerate(a tuple) -/
section
open Builtin Sem
set_option maxRecDepth 100000
theorem meets_enumerate_newT (l : Addr) (items : Array Value) :
    Meets (Builtin.«enumerate.__new__» ⟨[.type "enumerate", .ref l], []⟩) (fun _ R s => s.heap.IsTuple l items ∧
      R (.ok (.ret (.ref (s.heap.push { cls := .type "tuple_iterator", data := .fields #[.ref l, .int 0 0] }).objs.size)))
        { s with heap := (s.heap.push { cls := .type "tuple_iterator", data := .fields #[.ref l, .int 0 0] }).push { cls := .type "enumerate", data := .fields #[.none, .bool false, .ref s.heap.objs.size, rawInt 0, .none, .none] } }) :=
  .of_wp fun prog w A R s h => by
    obtain ⟨hp, g, d, tk, os⟩ := s; obtain ⟨hL, h⟩ := h
    have hsub := sub_enumerate
    have hL : Heap.IsTuple (Shared.heap ⟨hp, g, d, tk, os⟩) l items := hL
    wp_walk
    refine wpAny_stack_any fun st => wpAny_pure ?_
    split
    · rename_i c _ _ _ _ _
      cases (c == Value.type "enumerate")
      · wp_walk using wpAny_pyIter_tuple hL
        exact ⟨_, rfl, h⟩
      · wp_walk using wpAny_pyIter_tuple hL
        exact ⟨_, rfl, h⟩
    · wp_walk using wpAny_pyIter_tuple hL
      exact ⟨_, rfl, h⟩
end
section
variable {prog : Program} {w : World} {A : Around} {E : Value → Shared → Prop} {s : Shared}
theorem call_enumerate_tuple {l : Addr} {items : Array Value} {Q : Value → Shared → Prop} (hL : s.heap.IsTuple l items)
    (h : ∀ h', IsEnum h' (s.heap.objs.size + 1) s.heap.objs.size 0 .none → h'.IsTupleIter s.heap.objs.size l 0 → h'.objs.size = s.heap.objs.size + 2 →
      (∀ b o, s.heap.get? b = some o → h'.get? b = some o) → Q (.ref (s.heap.objs.size + 1)) { s with heap := h' }) :
    wpAny (model prog w) A (PySem.call (.type "enumerate") [.ref l]) Q E s := by
  refine callType_new F.called_enumerate (by decide) (F.typeCall_enumerate_1 _) (F.newCall_enumerate_1 _) (fun obj => F.args_object_init_2 obj _) F.entry_enumerate_new
    (meets_enumerate_newT l items) ⟨hL, ?_⟩
  have hz : (s.heap.push { cls := .type "tuple_iterator", data := .fields #[.ref l, .int 0 0] }).objs.size = s.heap.objs.size + 1 := Heap.size_push ..
  show _ ∧ _
  rw [hz]
  have he : IsEnum ((s.heap.push { cls := .type "tuple_iterator", data := .fields #[.ref l, .int 0 0] }).push
      { cls := .type "enumerate", data := .fields #[.none, .bool false, .ref s.heap.objs.size, rawInt 0, .none, .none] }) (s.heap.objs.size + 1) s.heap.objs.size 0 .none := by
    have := Heap.get?_push_size (s.heap.push { cls := .type "tuple_iterator", data := .fields #[.ref l, .int 0 0] })
      (o := { cls := .type "enumerate", data := .fields #[.none, .bool false, .ref s.heap.objs.size, rawInt 0, .none, .none] }) rfl
    rw [hz] at this; exact this
  refine ⟨⟨_, he, rfl⟩, h _ he ⟨_, Heap.get?_push_of_some _ (Heap.get?_push_size _ rfl), rfl, rfl⟩ (by rw [Heap.size_push, hz]) fun b o x => Heap.get?_push_of_some _ (Heap.get?_push_of_some _ x)⟩
end
section
variable {prog : Program} {w : World} {A : Around} {E : Value → Shared → Prop} {s : Shared}
theorem enum_endT {e it l : Addr} {i : Nat} {items : Array Value} {old : Value} {Q : Option Value → Shared → Prop} (hh : A.handled = none)
    (he : IsEnum s.heap e it i old) (hit : s.heap.IsTupleIter it l i) (hl : s.heap.IsTuple l items) (hx : items[i]? = none)
    (hQ : ∀ h', Heap.ExtBut it s.heap h' → Q none { s with heap := h' }) : wpAny (model prog w) A (pyNext (.ref e)) Q E s := by
  have hT : s.TypeIs (.ref e) "enumerate" := ⟨_, he, rfl⟩
  unfold pyNext
  refine wpAny_bind (wpAny_attempt (wpAny_callSpecial?_slot (name := Str.ofString "__next__") hT F.slot_enumerate_next
    (wpAny_call_entry F.slot_enumerate_next hT F.entry_enumerate_next ?_ (F.args_enumerate_next_1 _))))
  show wpAny _ _ (field (.ref e) 2 >>= _) _ _ _
  refine wpAny_bind (wpAny_field he rfl (x := .ref it) rfl ?_)
  refine wpAny_bind (wpAny_nextOf_tuple_end hh hit hl hx fun h' x he' hx' => ?_)
  obtain ⟨o, ho, hc⟩ := hx'
  refine wpAny_bind (wpAny_isInstance (T := "StopIteration") (b := true) ⟨o, ho, hc⟩ isSubtype_stop ?_)
  exact wpAny_pure (hQ _ he')
end
/-- the tuple at a, each item in a new pair -/
def Itet (K : PySem.W.Frag) (a : Addr) : L2.It :=
  ⟨fun i H => ∃ (xs : List V) (x : V), SqT K H a xs ∧ xs[i]? = some x, fun i H v H' => ∃ T x, v = .ref T ∧ H T = none ∧ H' = upd H T (.tup [.int (i : Nat), x]) ∧ ∀ xs, SqT K H a xs → xs[i]? = some x, fun i H => ∃ xs : List V, SqT K H a xs ∧ xs.length ≤ i⟩
theorem turn_enumT {P : Program} {w : World} {K : PySem.W.Frag} {elts : List Expr} {kk : Nat} {tpos : Pos} (a e it : Addr) :
    Turn P w K (.Tuple elts kk tpos) (Itet K a) [e, it] e (fun i h => (∃ old, IsEnum h e it ((i : Nat) : Int) old) ∧ h.IsTupleIter it a i ∧ e ≠ it ∧ a ≠ it ∧ e ≠ a) where
  mem := by simp
  obj := fun i h st b hb => by
    obtain ⟨⟨old, he⟩, ⟨o, ho, hc, hd⟩, _⟩ := st
    have e' : b = e ∨ b = it := by simpa using hb
    rcases e' with z | z
    · rw [z]; exact ⟨_, he, fun v q => nomatch q⟩
    · rw [z]; exact ⟨o, ho, fun v q => by rw [hd] at q; cases q⟩
  keep := fun i h h' st k => let ⟨⟨old, he⟩, hi, hne⟩ := st; ⟨⟨old, k e (by simp) _ he⟩, hi.at fun o q => k it (by simp) o q, hne⟩
  item := by
    intro X hP hw hK hc i pins s σ H E I hf st hg
    subst hP hw hK
    obtain ⟨⟨old, he⟩, hit, hne, hai, hea⟩ := st
    obtain ⟨xs, x, hq, hx⟩ := hg
    obtain ⟨its, rv, p, hz⟩ := I.tuple hq
    obtain ⟨u, hu, ru⟩ := rv.get hx
    have hel : e < s.heap.objs.size := Heap.lt_size he
    have hil : it < s.heap.objs.size := by obtain ⟨_, q, _⟩ := hit; exact Heap.lt_size q
    have hT0 : s.heap.IsTuple a its.toArray := p
    have hlt : i < its.toArray.size := by
      have := (List.getElem?_eq_some_iff.mp hu).1
      simpa using this
    refine wpAny_pyNext_enum_itemD (Draws.tuple (A := X.A.in1) (show X.A.in1.handled = none from I.ok.hd hc) it a hai its.toArray) he ⟨hit, hT0⟩ hlt hne (by simp [hne, hea]) fun x' h' tk hx' ho hit' hT hsz hk => ?_
    have eu : x' = u := by
      have e1 : its[i]? = some x' := by simpa using hx'
      rw [hu] at e1; exact (Option.some.inj e1).symm
    subst eu
    refine ⟨_, rfl, wpAny_letOwnedTupleGo_enum (s := { s with heap := h', toks := tk + 1 }) ho fun h'' he' sb => ?_⟩
    have hT2 : h''.get? s.heap.objs.size = some { cls := .type "tuple", data := .seq #[.int i tk, x'] } := (sb.2 _ (Nat.ne_of_gt hel)).trans hT
    have new : ObjOk X.prog X.w (upd H s.heap.objs.size (.tup [.int (i : Nat), x])) h'' s.heap.objs.size (.tup [.int (i : Nat), x]) :=
      ⟨by show 2 ≤ sizeLine; decide, [.int i tk, x'], .cons ⟨_, rfl⟩ (.cons ru .nil), ⟨_, hT2, rfl, _, rfl⟩⟩
    have I1 : Inv X pins σ (upd H s.heap.objs.size (.tup [.int (i : Nat), x])) { s with heap := h'', toks := tk + 1 } :=
      I.turnedNew (ch := [e, it]) (fun b ob hb q => (sb.2 b (fun z => hb (by simp [z]))).trans (hk b ob (fun z => hb (by simp [z])) (fun z => hb (by simp [z])) q)) hf (Nat.le_refl _) new
    refine ⟨.ref s.heap.objs.size, _, I1, rfl, ⟨_, x, rfl, I.hok.fresh (Nat.le_refl _), rfl, fun ys hy => by rw [I.tuple_inj hy hq]; exact hx⟩, ⟨⟨x', ?_⟩, hit'.1.at fun o q => (sb.2 it (Ne.symm hne)).trans q, hne, hai, hea⟩, fun b hb => ?_⟩
    · have e1 : ((i + 1 : Nat) : Int) = (i : Int) + 1 := by omega
      rw [e1]; exact he'
    · have hb' : b < s.heap.objs.size := by
        have e' : b = e ∨ b = it := by simpa using hb
        rcases e' with z | z
        · rw [z]; exact hel
        · rw [z]; exact hil
      rw [upd_ne (Nat.ne_of_lt hb')]
      exact (hf b hb).1
  done := by
    intro X hP hw hK hc i pins s σ H E I hf st hg
    subst hP hw hK
    obtain ⟨⟨old, he⟩, hit, hne, hai, hea⟩ := st
    obtain ⟨xs, hq, hx⟩ := hg
    obtain ⟨its, rv, p, hz⟩ := I.tuple hq
    have hT0 : s.heap.IsTuple a its.toArray := p
    obtain ⟨f0, f1, f2, f3, f4, f5⟩ := hf it (by simp)
    have hl := rv.length
    exact enum_endT (I.ok.hd hc) he hit hT0 (by simp; omega) fun h' eb => ⟨rfl, I.turned (t' := s.toks) (fun b o hb q => eb b o hb q) f0 f1 f3 f4 f5⟩
  self := fun A i s Q E st h => let ⟨⟨_, he⟩, _⟩ := st; wpAny_pyIter_enum he h
def iEnumA (K : PySem.W.Frag) (ta : TA) : TI := fun σ H R => ta σ H fun vs H1 => ∃ a xs, vs = [.ref a] ∧ ((SqL K H1 a xs ∧ R (Ite K a) H1) ∨ (SqT K H1 a xs ∧ R (Itet K a) H1))
theorem pi_enumA {X : Cx} {e : Expr} {ta : TA} {p pos tpos : Pos} {elts : List Expr} {kk : Nat} (hg : Gl X "enumerate") (hm : X.mg "enumerate" = none) (ha : PA X [e] ta) (hs : starEach [e] X.env = [(false, eval e X.env)] := by rfl) :
    PI X (.Tuple elts kk tpos) (.Call (.Name "enumerate" p) [e] [] pos) (iEnumA X.K ta) := by
  refine ⟨fun pins s σ H R I h => ?_⟩
  refine Call_ (ld_blt I hg hm boot_enumerate (PyProof.Rows.callWith_type1 (thn (ha.run pos pins s σ H _ I h) fun us s1 ⟨vs, H1, I1, r1, q1⟩ => ?_) hs rfl))
  obtain ⟨a, xs, ex, q⟩ := q1
  subst ex
  cases r1 with
  | cons r rr =>
    cases rr
    cases r
    rcases q with ⟨hq, q⟩ | ⟨hq, q⟩
    · obtain ⟨its, rv, p', hz⟩ := I1.list hq
      refine call_enumerate_list p'.isList fun h' he hit hsz hk => wpAny_pyIter_enum he ?_
      have I2 : Inv X pins σ H1 { s1 with heap := h' } := I1.kept (t' := s1.toks) hk
      refine ⟨s1.heap.objs.size + 1, [s1.heap.objs.size + 1, s1.heap.objs.size], _, _, H1, rfl, I2, turn_enum a (s1.heap.objs.size + 1) s1.heap.objs.size, ⟨⟨.none, he⟩, hit, Nat.succ_ne_self _⟩, fun b hb => ?_, q⟩
      have e' : b = s1.heap.objs.size + 1 ∨ b = s1.heap.objs.size := by simpa using hb
      have hle : s1.heap.objs.size ≤ b := by
        rcases e' with z | z
        · rw [z]; exact Nat.le_add_right _ _
        · rw [z]; exact Nat.le_refl _
      exact I1.fpOk hle (I1.hok.fresh hle)
    · obtain ⟨its, rv, p', hz⟩ := I1.tuple hq
      have hT0 : s1.heap.IsTuple a its.toArray := p'
      have hal : a < s1.heap.objs.size := by obtain ⟨_, q, _⟩ := hT0; exact Heap.lt_size q
      refine call_enumerate_tuple hT0 fun h' he hit hsz hk => wpAny_pyIter_enum he ?_
      have I2 : Inv X pins σ H1 { s1 with heap := h' } := I1.kept (t' := s1.toks) hk
      refine ⟨s1.heap.objs.size + 1, [s1.heap.objs.size + 1, s1.heap.objs.size], _, _, H1, rfl, I2, turn_enumT a (s1.heap.objs.size + 1) s1.heap.objs.size, ⟨⟨.none, he⟩, hit, Nat.succ_ne_self _, Nat.ne_of_lt hal, Nat.ne_of_gt (Nat.lt_succ_of_lt hal)⟩, fun b hb => ?_, q⟩
      have e' : b = s1.heap.objs.size + 1 ∨ b = s1.heap.objs.size := by simpa using hb
      have hle : s1.heap.objs.size ≤ b := by
        rcases e' with z | z
        · rw [z]; exact Nat.le_add_right _ _
        · rw [z]; exact Nat.le_refl _
      exact I1.fpOk hle (I1.hok.fresh hle)
theorem walk_enumT {K : PySem.W.Frag} {a : Addr} {xs : List V} : Walk (Itet K a) xs.length (fun H => SqT K H a xs) (YPair (fun i => some (.int (i : Nat))) (fun i => xs[i]?)) := by
  refine ⟨fun i _ hi q => ⟨xs, xs[i], q, by simp [hi]⟩, fun _ q => ⟨xs, q, Nat.le_refl _⟩, fun i H v H' _ q y => ?_⟩
  obtain ⟨T, x, h1, h2, h3, h4⟩ := y
  exact ⟨T, .int (i : Nat), x, h1, h2, h3, rfl, h4 xs q⟩
end AM
end

section
set_option linter.all false
set_option maxRecDepth 100000
set_option maxHeartbeats 2200000
/-! AM, between: max(a list of data, default = a value). -/
namespace AM
open PySem PySem.Spec PySem.W L2
/-! ### what is read is one -/
theorem maps_one {α β : Type} : ∀ {l m : List (α × β)}, l.map (·.1) = m.map (·.1) → l.map (·.2) = m.map (·.2) → l = m
  | [], [], _, _ => rfl
  | [], _ :: _, h, _ => nomatch h
  | _ :: _, [], h, _ => nomatch h
  | (a, b) :: l, (c, d) :: m, h1, h2 => by
    simp only [List.map_cons, List.cons.injEq] at h1 h2
    rw [h1.1, h2.1, maps_one h1.2 h2.2]
mutual
theorem reads_one {h : Heap} : ∀ {v : Value} {d : PyData} {as : List Addr}, Reads h v d as → ∀ {d' : PyData} {bs : List Addr}, Reads h v d' bs → d = d'
  | _, _, _, .none, _, _, q => by cases q; rfl
  | _, _, _, .bool _, _, _, q => by cases q; rfl
  | _, _, _, .int _ _, _, _, q => by cases q; rfl
  | _, _, _, .str _ _, _, _, q => by cases q; rfl
  | _, _, _, .list e1 e2 e3 r, _, _, q => by
    cases q with
    | list f1 f2 f3 r' => rw [e1] at f1; cases f1; rw [e3] at f3; cases f3; rw [reads_all_one r r']
    | tuple f1 f2 f3 r' => rw [e1] at f1; cases f1; rw [e2] at f2; exact absurd f2 (by decide)
    | dict f1 f2 f3 r' r'' => rw [e1] at f1; cases f1; rw [e2] at f2; exact absurd f2 (by decide)
  | _, _, _, .tuple e1 e2 e3 r, _, _, q => by
    cases q with
    | list f1 f2 f3 r' => rw [e1] at f1; cases f1; rw [e2] at f2; exact absurd f2 (by decide)
    | tuple f1 f2 f3 r' => rw [e1] at f1; cases f1; rw [e3] at f3; cases f3; rw [reads_all_one r r']
    | dict f1 f2 f3 r' r'' => rw [e1] at f1; cases f1; rw [e2] at f2; exact absurd f2 (by decide)
  | _, _, _, .dict e1 e2 e3 r1 r2, _, _, q => by
    cases q with
    | list f1 f2 f3 r' => rw [e1] at f1; cases f1; rw [e2] at f2; exact absurd f2 (by decide)
    | tuple f1 f2 f3 r' => rw [e1] at f1; cases f1; rw [e2] at f2; exact absurd f2 (by decide)
    | dict f1 f2 f3 r' r'' =>
      rw [e1] at f1; cases f1; rw [e3] at f3; cases f3
      have k1 := reads_all_one r1 r'
      have k2 := reads_all_one r2 r''
      rw [maps_one k1 k2]
theorem reads_all_one {h : Heap} : ∀ {vs : List Value} {ds : List PyData} {as : List Addr}, ReadsAll h vs ds as → ∀ {ds' : List PyData} {bs : List Addr}, ReadsAll h vs ds' bs → ds = ds'
  | _, _, _, .nil, _, _, q => by cases q; rfl
  | _, _, _, .cons r rs, _, _, q => by
    cases q with
    | cons r' rs' => rw [reads_one r r', reads_all_one rs rs']
end
def rMaxX (K : PySem.W.Frag) (x z : V) (H2 : Hp) (Q : VK) : Prop := ∃ (a : Addr) (xs : List V) (ds : List PyData), x = .ref a ∧ SqL K H2 a xs ∧ DpAll K H2 xs ds ∧ AlikeAll ds ∧ PyData.depthAll ds ≤ 60 ∧
  (ds = [] → Q z H2) ∧ ∀ (y : PyData) (ys : List PyData) (i : Nat) (u : V), ds = y :: ys → xs[i]? = some u → ds[i]? = some (maxD y ys) → Q u H2
def tMaxD (K : PySem.W.Frag) (te td : TE) : TE := fun σ H Q => te σ H fun x H1 => td σ H1 fun z H2 => rMaxX K x z H2 Q
def oneQ (td : TE) (K : PySem.W.Frag) (σ : L2.St) (Q : VK) : List V → Hp → Prop := fun vs H1 => match vs with
  | [x] => td σ H1 fun z H2 => rMaxX K x z H2 Q
  | _ => False
def oneR (K : PySem.W.Frag) (x : V) (Q : VK) : List V → Hp → Prop := fun vs H2 => match vs with
  | [z] => rMaxX K x z H2 Q
  | _ => False
section
variable {X : Cx}
theorem pe_maxD {e dx : Expr} {te td : TE} {p pos kp : Pos} (hc : X.calm = true) (hu : X.A.units + 65 < cLine) (hg : Gl X "max") (hm : X.mg "max" = none) (he : PE X e te) (hd : PE X dx td) (hs : starEach [e] X.env = (false, eval e X.env) :: starEach [] X.env) :
    PE X (.Call (.Name "max" p) [e] [⟨some "default", dx, kp⟩] pos) (tMaxD X.K te td) := by
  refine ⟨fun pins s σ H Q I h => ?_⟩
  refine wpAny_Call_Name_kw (ld_blt I hg hm (u := .builtin "max") (by decide +kernel) ?_)
  refine PyProof.Rows.callWith_kw (id := "max") (rest := []) (thn ((pa_cons he pa_nil hs).run pos pins s σ H (oneQ td X.K σ Q) I h) fun us t1 ⟨vs, H1, I1, r1, q1⟩ => ?_) (by rw [hs]; rfl) (by rw [hs]; rfl)
  unfold oneQ at q1
  split at q1 <;> first | exact q1.elim | skip
  rename_i x
  obtain ⟨u, rfl, ru⟩ := vals1 r1
  refine thn ((pk_cons (nm := some "default") hd pk_nil).run pos pins t1 σ H1 (oneR X.K x Q) I1 q1) fun ws t2 ⟨zs, H2, I2, r2, q2⟩ => ?_
  unfold oneR at q2
  split at q2 <;> first | exact q2.elim | skip
  rename_i z
  obtain ⟨v, rfl, rv⟩ := vals1 r2
  obtain ⟨a, xs, ds, rfl, hq, hp, ha, hl, q0, q3⟩ := q2
  obtain rfl : u = Value.ref a := ru
  obtain ⟨its, rl, pl, hz⟩ := I2.list hq
  obtain ⟨as, rs⟩ := Dp.readsAll I2 ds xs its hp rl
  have hzz : [(Str.ofString "default")].zip [v] = [(Str.ofString "default", v)] := rfl
  show wpAny (model X.prog X.w) X.A (PySem.call (Value.builtin "max") [Value.ref a] [(Str.ofString "default", v)]) _ _ _
  refine max_list_default (I2.ok.hd hc) pl.isList (by simpa using rs) ha (by omega) (fun e h' tk hk => ?_) fun y ys i w h' tk bs e hi hr hk => ?_
  · exact ⟨z, H2, I2.kept hk, rv, q0 e⟩
  · have hi2 : its[i]? = some w := by simpa using hi
    have hlen := rl.length
    have hil : i < xs.length := by rw [hlen]; exact (List.getElem?_eq_some_iff.mp hi2).1
    obtain ⟨x2, hx2⟩ : ∃ x2, xs[i]? = some x2 := ⟨xs[i], List.getElem?_eq_getElem hil⟩
    obtain ⟨w2, hw2, rx2⟩ := rl.get hx2
    rw [hi2] at hw2
    cases hw2
    obtain ⟨cs, c1, c2, _, _⟩ := readsAll_at rs i w hi2
    have c3 : ds.getD i .none = maxD y ys := reads_one (reads_keeps hk c1) hr
    have c4 : ds[i]? = some (maxD y ys) := by
      rw [← c3, List.getD_eq_getElem?_getD, List.getElem?_eq_getElem c2]
      rfl
    exact ⟨x2, H2, I2.kept hk, rx2, q3 y ys i x2 e hx2 c4⟩
def rMaxY (K : PySem.W.Frag) : List V → Hp → VK → Prop := fun vs H Q => ∃ (a : Addr) (xs : List V) (ds : List PyData), vs = [.ref a] ∧ SqL K H a xs ∧ DpAll K H xs ds ∧ AlikeAll ds ∧ PyData.depthAll ds ≤ 60 ∧ ds ≠ [] ∧
  ∀ (y : PyData) (ys : List PyData) (i : Nat) (u : V), ds = y :: ys → xs[i]? = some u → ds[i]? = some (maxD y ys) → Q u H
/-- max of a list of data -/
theorem cr_maxY (hc : X.calm = true) (hu : X.A.units + 65 < cLine) : CallR X (.builtin "max") (rMaxY X.K) := by
  intro pins s σ H vs us Q I r h
  obtain ⟨a, xs, ds, rfl, hq, hp, ha, hl, hn, q3⟩ := h
  obtain ⟨its, rl, pl, hz⟩ := I.list hq
  rw [Vals.ref1 r]
  obtain ⟨as, rs⟩ := Dp.readsAll I ds xs its hp rl
  cases ds with
  | nil => exact absurd rfl hn
  | cons y ys =>
    refine max_list_data (I.ok.hd hc) pl.isList (by simpa using rs) ha (by omega) fun i w h' tk bs hi hr hk => ?_
    have hi2 : its[i]? = some w := by simpa using hi
    have hlen := rl.length
    have hil : i < xs.length := by rw [hlen]; exact (List.getElem?_eq_some_iff.mp hi2).1
    obtain ⟨x2, hx2⟩ : ∃ x2, xs[i]? = some x2 := ⟨xs[i], List.getElem?_eq_getElem hil⟩
    obtain ⟨w2, hw2, rx2⟩ := rl.get hx2
    rw [hi2] at hw2
    cases hw2
    obtain ⟨cs, c1, c2, _, _⟩ := readsAll_at rs i w hi2
    have c3 : (y :: ys).getD i .none = maxD y ys := reads_one (reads_keeps hk c1) hr
    have c4 : (y :: ys)[i]? = some (maxD y ys) := by
      rw [← c3, List.getD_eq_getElem?_getD, List.getElem?_eq_getElem c2]
      rfl
    exact ⟨x2, H, I.kept hk, rx2, q3 y ys i x2 rfl hx2 c4⟩
end
end AM
end

section
set_option linter.all false
set_option maxRecDepth 100000
set_option maxHeartbeats 4000000
/-! AM, sixth part: the main theorem on expressions. -/
namespace AM
open PySem L2

theorem plainT_he {e : Expr} (h : plainT e = true) (env : PySem.Env) (whole : Sem Value) : isTrue e env whole = (do let v ← whole; standAt e.pos; holding [v] (truthy v)) := by
  cases e <;> first | rfl | cases h | (rename_i op _ _; cases op <;> first | rfl | cases h)
theorem star_cons {e : Expr} (h : noStar e = true) (es : List Expr) (env : PySem.Env) : starEach (e :: es) env = (false, eval e env) :: starEach es env := by
  cases e <;> first | rfl | cases h
theorem noSet_mark {e : Expr} (h : noSet e = true) (op : CmpOp) : behindInMarks op e = false := by
  cases e <;> first | rfl | cases h
theorem noSlice_ix {e : Expr} (h : noSlice e = true) : PlainIx e := by
  intro o i
  cases e <;> first | rfl | cases h
theorem noComp_sw {e : Expr} (h : noComp e = true) (t : Option Expr) (l : Nat) (env : PySem.Env) : swapsWith e t l env = pure false := by
  cases e <;> first | rfl | cases h
theorem ba {a b : Bool} (h : (a && b) = true) : a = true ∧ b = true := Bool.and_eq_true_iff.mp h
/-- a op1 b op2 c op3 d -/
def tChain3 (r r' r'' : R2) (ta tb tc td : TE) : TE := fun σ H Q => ta σ H fun x H1 => tb σ H1 fun y H2 => r x y H2 fun z H3 => ∃ k, z = .bl k ∧
  (if k = true then tc σ H3 fun w' H4 => r' y w' H4 fun z H5 => ∃ k, z = .bl k ∧ (if k = true then td σ H5 fun v' H6 => r'' w' v' H6 Q else Q (.bl false) H5) else Q (.bl false) H3)
open PyProof.Rows in
theorem pe_chain3 {X : Cx} {a b c d : Expr} {pos : _} {ta tb tc td : TE} {op op' op'' : CmpOp} {r r' r'' : R2} (ho : OpR X (compareOp op) r) (ho' : OpR X (compareOp op') r') (ho'' : OpR X (compareOp op'') r'') (ha : PE X a ta) (hb : PE X b tb) (hc : PE X c tc) (hd : PE X d td)
    (hm : lastMarks [op, op', op''] [b, c, d] = false) : PE X (.Compare a [op, op', op''] [b, c, d] pos) (tChain3 r r' r'' ta tb tc td) := by
  refine ⟨fun pins s σ H Q I h => ?_⟩
  refine Compare_chain (thn (ha.run pins s σ H _ I h) fun v s1 ⟨x, H1, I1, r1, q1⟩ => chain_link (thn (hb.run pins s1 σ H1 _ I1 q1) fun u s2 ⟨y, H2, I2, r2, q2⟩ =>
    thn (ho pins s2 σ H2 x y v u _ I2 r1 r2 q2) fun d s3 ⟨z, H3, I3, r3, k, e, q3⟩ => ?_)) hm
  subst e
  cases r3
  refine wpAny_truthy_bool ?_
  cases k with
  | false => exact ite_ff ⟨.bl false, H3, I3, rfl, q3⟩
  | true =>
    refine ite_tt (chain_link (thn (hc.run pins s3 σ H3 _ I3 q3) fun w' s4 ⟨z', H4, I4, r4, q4⟩ => thn (ho' pins s4 σ H4 y z' u w' _ I4 r2 r4 q4) fun d2 s5 ⟨z5, H5, I5, r5, k2, e2, q5⟩ => ?_))
    subst e2
    cases r5
    refine wpAny_truthy_bool ?_
    cases k2 with
    | false => exact ite_ff ⟨.bl false, H5, I5, rfl, q5⟩
    | true => exact ite_tt (chain_last (thn (hd.run pins s5 σ H5 _ I5 q5) fun v' s6 ⟨z6, H6, I6, r6, q6⟩ => ho'' pins s6 σ H6 z' z6 w' v' Q I6 r4 r6 q6))
open PyProof.Rows in
theorem pt_chain3 {X : Cx} {a b c d : Expr} {pos : _} {ta tb tc td : TE} {op op' op'' : CmpOp} {r r' r'' : R2} (ho : OpR X (compareOp op) r) (ho' : OpR X (compareOp op') r') (ho'' : OpR X (compareOp op'') r'') (ha : PE X a ta) (hb : PE X b tb) (hc : PE X c tc) (hd : PE X d td)
    (hm : lastMarks [op, op', op''] [b, c, d] = false) : PT X (.Compare a [op, op', op''] [b, c, d] pos) (tTest (tChain3 r r' r'' ta tb tc td)) := by
  refine ⟨fun pins s σ H Q I h => ?_⟩
  refine isTrue_chain (thn (ha.run pins s σ H _ I h) fun v s1 ⟨x, H1, I1, r1, q1⟩ => test_link (thn (hb.run pins s1 σ H1 _ I1 q1) fun u s2 ⟨y, H2, I2, r2, q2⟩ =>
    thn (ho pins s2 σ H2 x y v u _ I2 r1 r2 q2) fun d s3 ⟨z, H3, I3, r3, k, e, q3⟩ => ?_)) hm
  subst e
  cases r3
  refine wpAny_truthy_bool ?_
  cases k with
  | false =>
    obtain ⟨k', e', q'⟩ := q3
    cases e'
    exact ite_ff ⟨H3, I3, q'⟩
  | true =>
    refine ite_tt (test_link (thn (hc.run pins s3 σ H3 _ I3 q3) fun w' s4 ⟨z', H4, I4, r4, q4⟩ => thn (ho' pins s4 σ H4 y z' u w' _ I4 r2 r4 q4) fun d2 s5 ⟨z5, H5, I5, r5, k2, e2, q5⟩ => ?_))
    subst e2
    cases r5
    refine wpAny_truthy_bool ?_
    cases k2 with
    | false =>
      obtain ⟨k', e', q'⟩ := q5
      cases e'
      exact ite_ff ⟨H5, I5, q'⟩
    | true =>
      refine ite_tt (test_last (thn (hd.run pins s5 σ H5 _ I5 q5) fun v' s6 ⟨z6, H6, I6, r6, q6⟩ => thn (ho'' pins s6 σ H6 z' z6 w' v' _ I6 r4 r6 q6) fun d3 s7 ⟨z7, H7, I7, r7, k3, e3, q7⟩ => ?_))
      subst e3
      cases r7
      exact wpAny_truthy_bool ⟨H7, I7, q7⟩

section
variable {X : Cx} {cA : Str → Addr} {F : Hp} {β : List Addr} {S : Sto} {H : Hp}
theorem tru_ok2 {v : Va} {x : V} {b : Bool} (s : Sim X.K cA F β S H) (r : VR X.K F β v x) (h : tru S v = some b) : TruV X.K x H b := by
  cases v with
  | exc a => cases h
  | fnv _ _ => cases h
  | non => cases r; cases h; rfl
  | bl c => cases r; cases h; rfl
  | int i => cases r; cases h; rfl
  | str z => cases h
  | tup xs =>
    obtain ⟨a, ys, rfl, t, q⟩ := r
    cases h
    refine .inr (.inl ⟨ys, SqT.mono s.sub t, ?_⟩)
    have := q.len
    cases xs <;> cases ys <;> simp_all
  | lst xs =>
    obtain ⟨a, ys, rfl, t, q⟩ := r
    cases h
    refine .inl ⟨ys, SqL.of (s.sub _ _ t), ?_⟩
    have := q.len
    cases xs <;> cases ys <;> simp_all
  | dct xs =>
    cases h
    obtain ⟨a, ys, rfl, e2, q⟩ := LD.ok s (.inl rfl) r
    refine .inr (.inr ⟨ys, e2, ?_⟩)
    have := q.len
    cases xs <;> cases ys <;> simp_all
  | scr xs => cases h
  | loc n =>
    simp only [tru] at h
    split at h
    · rename_i xs e
      cases h
      obtain ⟨a, ys, rfl, e2, q⟩ := LV.ok s (.inr ⟨_, rfl, e⟩) r
      refine .inl ⟨ys, SqL.of e2, ?_⟩
      have := q.len
      cases xs <;> cases ys <;> simp_all
    · rename_i xs e
      cases h
      obtain ⟨a, ys, rfl, e2, q⟩ := LD.ok s (.inr ⟨_, rfl, e⟩) r
      refine .inr (.inr ⟨ys, e2, ?_⟩)
      have := q.len
      cases xs <;> cases ys <;> simp_all
    · cases h
theorem call_lenD : CallR X (.builtin "len") (fun xs H Q => ∃ x n, xs = [x] ∧ (LenV X.K x H n ∨ ∃ a kvs, x = .ref a ∧ Rd H a (.dK kvs) ∧ n = kvs.length) ∧ Q (.int n) H) := by
  intro pins s σ H xs us Q I r ⟨x, n, e, h, q⟩
  rcases h with h | ⟨a, kvs, ex, hd, en⟩
  · exact call_len pins s σ H xs us Q I r ⟨x, n, e, h, q⟩
  · subst e ex en
    cases r with
    | cons r0 rt =>
      cases rt
      cases r0
      exact d_len I hd fun t s' I' => ⟨.int _, H, I', ⟨t, rfl⟩, q⟩
theorem len_ok {v : Va} {x : V} {Q : VK} (s : Sim X.K cA F β S H) (r : VR X.K F β v x) (h : wLen v S (post X.K cA F β Q)) : ∃ n : Nat, (LenV X.K x H n ∨ ∃ a kvs, x = .ref a ∧ Rd H a (.dK kvs) ∧ n = kvs.length) ∧ Q (.int n) H := by
  have lst : ∀ {xs : List Va}, LV S v xs → post X.K cA F β Q (.int xs.length) S → ∃ n : Nat, (LenV X.K x H n ∨ ∃ a kvs, x = .ref a ∧ Rd H a (.dK kvs) ∧ n = kvs.length) ∧ Q (.int n) H := fun hv p => by
    obtain ⟨a, ys, rfl, e, q⟩ := hv.ok s r
    exact ⟨_, .inl (.inl ⟨ys, SqL.of e, q.len⟩), post_here (v := .int _) s rfl p⟩
  have dic : ∀ {xs : List (Key × Va)}, LR S v xs → post X.K cA F β Q (.int xs.length) S → ∃ n : Nat, (LenV X.K x H n ∨ ∃ a kvs, x = .ref a ∧ Rd H a (.dK kvs) ∧ n = kvs.length) ∧ Q (.int n) H := fun hv p => by
    obtain ⟨a, ys, rfl, e, q⟩ := hv.ok s r
    exact ⟨_, .inr ⟨a, ys, rfl, e, q.len⟩, post_here (v := .int _) s rfl p⟩
  cases v with
  | exc a => exact h.elim
  | fnv _ _ => exact h.elim
  | non => exact h.elim
  | bl c => exact h.elim
  | int i => exact h.elim
  | str z => cases r; exact ⟨z.length, .inl ⟨h.1, rfl⟩, post_here (v := .int _) s rfl h.2⟩
  | tup xs =>
    obtain ⟨a, ys, rfl, t, q⟩ := r
    exact ⟨xs.length, .inl (.inr ⟨ys, SqT.mono s.sub t, q.len⟩), post_here (v := .int _) s rfl h⟩
  | lst xs => exact lst (.inl rfl) h
  | dct xs => exact dic (.inl (.inl rfl)) h
  | scr ns =>
    obtain ⟨a, rfl, t⟩ := r
    exact ⟨ns.length, .inl (.inl ⟨_, SqL.mono s.sub t, by simp⟩), post_here (v := .int _) s rfl h⟩
  | loc n =>
    obtain ⟨o, e, h⟩ := h
    cases o with
    | lst xs => exact lst (.inr ⟨_, rfl, e⟩) h
    | dct xs => exact dic (.inl (.inr ⟨_, rfl, e⟩)) h
    | lok xs => exact dic (.inr ⟨_, rfl, e⟩) h
    | _ => exact h.elim
theorem abs_ok {v : Va} {x : V} {Q : VK} (s : Sim X.K cA F β S H) (r : VR X.K F β v x) (h : wAbs v S (post X.K cA F β Q)) : ∃ i : Int, x = .int i ∧ Q (.int (if i < 0 then -i else i)) H := by
  cases v <;> first | exact h.elim | skip
  cases r
  exact ⟨_, rfl, post_here (v := .int _) s rfl h⟩
theorem neg_ok {v : Va} {x : V} {Q : VK} (s : Sim X.K cA F β S H) (r : VR X.K F β v x) (h : wNeg v S (post X.K cA F β Q)) : ∃ i : Int, x = .int i ∧ Q (.int (-i)) H := by
  cases v <;> first | exact h.elim | skip
  cases r
  exact ⟨_, rfl, post_here (v := .int _) s rfl h⟩
theorem ty_ok {v : Va} {x : V} {t : Ty} {b : Bool} (s : Sim X.K cA F β S H) (r : VR X.K F β v x) (h : tyIs S v t = some b) : ∃ tv, TyX X.K H x tv ∧ PySem.W.kitOne X.K tv (.type (tyS t)) = some b := by
  cases v with
  | exc a => cases h
  | fnv _ _ => cases h
  | non => cases r; refine ⟨_, .base .non, ?_⟩; cases t <;> cases h <;> exact kit_ty (by decide +kernel)
  | bl c => cases r; refine ⟨_, .base (.bl c), ?_⟩; cases t <;> cases h <;> exact kit_ty (by decide +kernel)
  | int i => cases r; refine ⟨_, .base (.int i), ?_⟩; cases t <;> cases h <;> exact kit_ty (by decide +kernel)
  | str z => cases r; refine ⟨_, .base (.str z), ?_⟩; cases t <;> cases h <;> exact kit_ty (by decide +kernel)
  | tup xs =>
    obtain ⟨a, ys, rfl, tt, q⟩ := r
    have key : TyX X.K H (.ref a) (.type "tuple") := by
      rcases SqT.mono s.sub tt with (e | ⟨o, e⟩) | ⟨o, its, n, e, e2, _⟩
      · exact .base (.tup e)
      · exact .fTuple e
      · exact .kTuple e e2
    refine ⟨_, key, ?_⟩; cases t <;> cases h <;> exact kit_ty (by decide +kernel)
  | lst xs =>
    obtain ⟨a, ys, rfl, tt, q⟩ := r
    refine ⟨_, .base (.lst (s.sub _ _ tt)), ?_⟩; cases t <;> cases h <;> exact kit_ty (by decide +kernel)
  | scr ns =>
    obtain ⟨a, rfl, tt⟩ := r
    have key : TyX X.K H (.ref a) (.type "list") := by
      rcases SqL.mono s.sub tt with (e | ⟨o, e⟩) | ⟨o, its, n, e, e2, _⟩
      · exact .base (.lst e)
      · exact .base (.frz e)
      · exact .kList e e2
    refine ⟨_, key, ?_⟩; cases t <;> cases h <;> exact kit_ty (by decide +kernel)
  | dct xs =>
    obtain ⟨a, ys, rfl, tt, q⟩ := r
    refine ⟨_, .base (.dK (s.sub _ _ tt)), ?_⟩; cases t <;> cases h <;> exact kit_ty (by decide +kernel)
  | loc n =>
    obtain ⟨a, rfl, tt⟩ := r
    simp only [tyIs] at h
    split at h
    · rename_i xs e
      obtain ⟨b, e1, _, ys, e2, q⟩ := s.at e
      rw [tt] at e1
      cases (Option.some.inj e1)
      refine ⟨_, .base (.lst e2), ?_⟩; cases t <;> cases h <;> exact kit_ty (by decide +kernel)
    · rename_i xs e
      obtain ⟨b, e1, _, ys, e2, q⟩ := s.at e
      rw [tt] at e1
      cases (Option.some.inj e1)
      refine ⟨_, .base (.dK e2), ?_⟩; cases t <;> cases h <;> exact kit_ty (by decide +kernel)
    · cases h
theorem at_len {α γ : Type} {xs : List α} {ys : List γ} (hl : xs.length = ys.length) {i : Int} {v : α} (h : atI xs i = some v) : ∃ j : Nat, xs[j]? = some v ∧ ∀ w : γ, ys[j]? = some w → atI ys i = some w := by
  unfold atI at h ⊢
  rw [← hl]
  cases e : ixN xs.length i with
  | none => rw [e] at h; cases h
  | some j => rw [e] at h; exact ⟨j, h, fun w q => q⟩
theorem ix_dict (hu : X.A.units + 1 < cLine) : IxR X (fun x y H Q => ∃ a v, x = .ref a ∧ DGet H a y (some v) ∧ Q v H) := by
  intro value slice pins s σ H x y v u Q I rx ry ⟨a, w, e, g, q⟩ hs
  subst e
  cases rx
  exact PyProof.Rows.tail_any (dict_typeIs I g) PySem.F.slot_dict_getitem.lookup (d_getItem hu I g ry fun w' s' I' r' => ⟨w, H, I', r', q⟩) hs
theorem sub_ok : OpS X cA wSub (fun x y H Q => ((rIxL X.K x y H Q ∨ rIxT X.K x y H Q) ∨ rIxS x y H Q) ∨ ∃ a v, x = .ref a ∧ DGet H a y (some v) ∧ Q v H) := fun F β S H v u x y Q s r1 r2 q => by
  have lst : ∀ {xs : List Va} {i : Int}, LV S v xs → u = .int i → (∃ w, L2.atI xs i = some w ∧ post X.K cA F β Q w S) → rIxL X.K x y H Q := fun {xs i} hv hu ⟨w, h1, h2⟩ => by
    subst hu
    cases r2
    obtain ⟨a, ys, rfl, e2, qq⟩ := hv.ok s r1
    obtain ⟨j, hj, hk⟩ := at_len qq.len h1
    obtain ⟨z, hz, rz⟩ := qq.get hj
    exact ⟨a, ys, _, z, rfl, rfl, SqL.of e2, hk z hz, post_here s rz h2⟩
  have dic : ∀ {kvs : List (Key × Va)}, LR S v kvs → (∃ kk, keyV u = some kk ∧ ∃ w, dget kvs kk = some w ∧ post X.K cA F β Q w S) → ∃ a v, x = .ref a ∧ DGet H a y (some v) ∧ Q v H := fun {kvs} hv ⟨kk, h0, w, h1, h2⟩ => by
    obtain ⟨a, ys, rfl, e2, qq⟩ := hv.ok s r1
    obtain ⟨z, hz, rz⟩ := (qq.val kk).1 w h1
    exact ⟨a, z, rfl, .inl ⟨ys, kk, e2, kV_keyV h0 r2, hz.symm⟩, post_here s rz h2⟩
  unfold wSub at q
  split at q <;> first | exact q.elim | skip
  · obtain ⟨a, ys, rfl, t, qq⟩ := r1
    cases r2
    obtain ⟨w, h1, h2⟩ := q
    obtain ⟨j, hj, hk⟩ := at_len qq.len h1
    obtain ⟨z, hz, rz⟩ := qq.get hj
    exact .inl (.inl (.inr ⟨a, ys, _, z, rfl, rfl, SqT.mono s.sub t, hk z hz, post_here s rz h2⟩))
  · exact .inl (.inl (.inl (lst (.inl rfl) rfl q)))
  · obtain ⟨o, h0, q⟩ := q
    unfold subO at q
    split at q
    · exact .inl (.inl (.inl (lst (.inr ⟨_, rfl, h0⟩) rfl q)))
    · exact .inr (dic (.inl (.inr ⟨_, rfl, h0⟩)) q)
    · exact .inr (dic (.inr ⟨_, rfl, h0⟩) q)
    · exact q.elim
  · exact .inr (dic (.inl (.inl rfl)) q)
  · obtain ⟨a, rfl, t⟩ := r1
    cases r2
    obtain ⟨n, h1, h2⟩ := q
    obtain ⟨j, hj, hk⟩ := at_len (γ := V) (ys := List.map V.int _) (by rw [List.length_map]) h1
    exact .inl (.inl (.inl ⟨a, _, _, .int n, rfl, rfl, SqL.mono s.sub t, hk (.int n) (by rw [List.getElem?_map, hj]; rfl), post_here (v := .int n) s rfl h2⟩))
  · cases r1; cases r2
    obtain ⟨c, h0, h1, h2⟩ := q
    exact .inl (.inr ⟨_, _, c, rfl, rfl, h0, h1, post_here (v := .str _) s rfl h2⟩)
theorem VRs.drop {K : PySem.W.Frag} {F : Hp} {β : List Addr} : ∀ {xs : List Va} {ys : List V} (n : Nat), VRs K F β xs ys → VRs K F β (xs.drop n) (ys.drop n)
  | xs, ys, 0, h => h
  | [], _, n + 1, h => by cases (show _ = [] from h); rfl
  | x :: xs, _, n + 1, ⟨y, r, e, _, q⟩ => by subst e; exact VRs.drop n q
theorem VRs.take {K : PySem.W.Frag} {F : Hp} {β : List Addr} : ∀ {xs : List Va} {ys : List V} (n : Nat), VRs K F β xs ys → VRs K F β (xs.take n) (ys.take n)
  | xs, ys, 0, h => rfl
  | [], _, n + 1, h => by cases (show _ = [] from h); rfl
  | x :: xs, _, n + 1, ⟨y, r, e, q, qs⟩ => by subst e; exact ⟨y, _, rfl, q, VRs.take n qs⟩
theorem VRs.dropLast {K : PySem.W.Frag} {F : Hp} {β : List Addr} {xs : List Va} {ys : List V} (h : VRs K F β xs ys) : VRs K F β xs.dropLast ys.dropLast := by
  rw [List.dropLast_eq_take, List.dropLast_eq_take, h.len]; exact h.take _
theorem VRs.set {K : PySem.W.Frag} {F : Hp} {β : List Addr} : ∀ {xs : List Va} {ys : List V} (n : Nat) {v : Va} {x : V}, VRs K F β xs ys → VR K F β v x → VRs K F β (xs.set n v) (ys.set n x)
  | [], _, n, _, _, h, _ => by cases (show _ = [] from h); rfl
  | x :: xs, _, 0, _, _, ⟨y, r, e, q, qs⟩, h => by subst e; exact ⟨_, _, rfl, h, qs⟩
  | x :: xs, _, n + 1, _, _, ⟨y, r, e, q, qs⟩, h => by subst e; exact ⟨_, _, rfl, q, VRs.set n qs h⟩
theorem VRs.reverse {K : PySem.W.Frag} {F : Hp} {β : List Addr} : ∀ {xs : List Va} {ys : List V}, VRs K F β xs ys → VRs K F β xs.reverse ys.reverse
  | [], _, h => by cases (show _ = [] from h); rfl
  | x :: xs, _, ⟨y, r, e, q, qs⟩ => by
    subst e
    rw [List.reverse_cons, List.reverse_cons]
    exact (VRs.reverse qs).append ⟨y, [], rfl, q, rfl⟩
theorem cut_ok2 {F : Hp} {β : List Addr} {xs : List Va} {ys : List V} (h : VRs X.K F β xs ys) (lo hi : Option Int) : VRs X.K F β (cutA xs lo hi) (cutV ys lo hi) := by
  unfold cutA cutV
  rw [h.len]
  exact (h.drop _).take _
theorem scr_cut {F : Hp} {β : List Addr} (ns : List Int) (lo hi : Option Int) : VRs X.K F β ((cutA ns lo hi).map Va.int) (cutV (ns.map V.int) lo hi) := by
  have := cut_ok2 (X := X) (F := F) (β := β) (VRs.ints.mpr (rfl : List.map V.int ns = _)) lo hi
  unfold cutA at this ⊢
  rw [List.map_take, List.map_drop]
  rw [List.length_map] at this
  exact this
theorem VRs.mk {K : PySem.W.Frag} {F : Hp} {β : List Addr} {v : Va} {x : V} {vs : List Va} {xs : List V} (h : VR K F β v x) (h' : VRs K F β vs xs) : VRs K F β (v :: vs) (x :: xs) := ⟨x, xs, rfl, h, h'⟩
theorem VRs.one {K : PySem.W.Frag} {F : Hp} {β : List Addr} {v : Va} {x : V} (h : VR K F β v x) : VRs K F β [v] [x] := ⟨x, [], rfl, h, rfl⟩
theorem cutA_whole {α : Type} {xs : List α} {lo hi : Option Int} (h : HT.sIx xs.length 0 lo = 0 ∧ HT.sIx xs.length xs.length hi = xs.length) : cutA xs lo hi = xs := by
  unfold cutA
  rw [h.1, h.2, List.drop_zero, Nat.sub_zero, List.take_length]
theorem slice_ok {F : Hp} {β : List Addr} {S : Sto} {H : Hp} {v : Va} {x : V} {lo hi : Option Int} {Q : VK} (s : Sim X.K cA F β S H) (r : VR X.K F β v x) (q : wSlice v lo hi S (post X.K cA F β Q)) :
    (rSlL X.K x lo hi H Q ∨ rSlA X.K x lo hi H Q) ∨ rSlS x lo hi H Q := by
  unfold wSlice at q
  split at q <;> first | exact q.elim | skip
  · obtain ⟨a, ys, rfl, t, qq⟩ := r
    exact .inl (.inl ⟨a, ys, rfl, SqL.of (s.sub _ _ t), post_new s (cut_ok2 qq _ _) q⟩)
  · obtain ⟨xs, h0, q⟩ := q
    obtain ⟨a, ys, rfl, e2, qq⟩ := LV.ok s (.inr ⟨_, rfl, h0⟩) r
    exact .inl (.inl ⟨a, ys, rfl, SqL.of e2, post_new s (cut_ok2 qq _ _) q⟩)
  · obtain ⟨a, rfl, t⟩ := r
    exact .inl (.inl ⟨a, _, rfl, SqL.mono s.sub t, post_new s (scr_cut _ _ _) q⟩)
  · obtain ⟨a, ys, rfl, t, qq⟩ := r
    refine .inl (.inr ⟨a, ys, rfl, SqT.mono s.sub t, fun hw => ?_, fun _ => post_tup s (cut_ok2 qq _ _) q⟩)
    rw [← qq.len] at hw
    rw [cutA_whole hw] at q
    exact q F β H _ (Ext.refl _ _) s ⟨a, ys, rfl, t, qq⟩
  · cases r
    exact .inr ⟨_, rfl, q.1, post_here (v := .str _) s rfl q.2⟩
end
/-! ### built-in functions and methods -/
section
variable {X : Cx} {cA : Str → Addr}
def bfV : Bf → Value
  | .list => .type "list" | .tuple => .type "tuple" | .sum => .builtin "sum" | .max1 => .builtin "max" | .maxT => .builtin "max" | .min1 => .builtin "min" | .max2 => .builtin "max" | .min2 => .builtin "min" | .sorted => .builtin "sorted"
  | .dict => .type "dict" | .ord => .builtin "ord" | .str => .type "str" | .int => .type "int" | .all => .builtin "all" | .any => .builtin "any"
def BltS (X : Cx) (cA : Str → Addr) (f : Bf) (r : List V → Hp → VK → Prop) : Prop := ∀ (F : Hp) (β : List Addr) (S : Sto) (H : Hp) (vs : List Va) (xs : List V) (Q : VK), Sim X.K cA F β S H → VRs X.K F β vs xs → wBlt f vs S (post X.K cA F β Q) → r xs H Q
theorem one_of {K : PySem.W.Frag} {F : Hp} {β : List Addr} {v : Va} {xs : List V} (h : VRs K F β [v] xs) : ∃ x, xs = [x] ∧ VR K F β v x := by
  obtain ⟨x, r, e, q, e2⟩ := h
  cases (show r = [] from e2)
  exact ⟨x, e, q⟩
theorem two_of {K : PySem.W.Frag} {F : Hp} {β : List Addr} {v u : Va} {xs : List V} (h : VRs K F β [v, u] xs) : ∃ x y, xs = [x, y] ∧ VR K F β v x ∧ VR K F β u y := by
  obtain ⟨x, r, e, q, h⟩ := h
  obtain ⟨y, e2, q2⟩ := one_of h
  exact ⟨x, y, by rw [e, e2], q, q2⟩
theorem LV.ints {K : PySem.W.Frag} {F : Hp} {β : List Addr} {S : Sto} {H : Hp} {v : Va} {x : V} {ns : List Int} (s : Sim K cA F β S H) (h : LV S v (ns.map Va.int)) (r : VR K F β v x) : ∃ a, x = .ref a ∧ H a = some (.lst (ns.map V.int)) := by
  obtain ⟨a, ys, e, h1, h2⟩ := h.ok s r
  rw [VRs.ints.mp h2] at h1
  exact ⟨a, e, h1⟩
theorem LV.bls {K : PySem.W.Frag} {F : Hp} {β : List Addr} {S : Sto} {H : Hp} {v : Va} {x : V} {ns : List Bool} (s : Sim K cA F β S H) (h : LV S v (ns.map Va.bl)) (r : VR K F β v x) : ∃ a, x = .ref a ∧ H a = some (.lst (ns.map V.bl)) := by
  obtain ⟨a, ys, e, h1, h2⟩ := h.ok s r
  rw [VRs.bls.mp h2] at h1
  exact ⟨a, e, h1⟩
theorem keysV_ok {K : PySem.W.Frag} {F : Hp} {β : List Addr} : ∀ {kvs : List (Key × Va)} {ys : List (Key × V)}, VRk K F β kvs ys → VRs K F β (kvs.map fun kv => keyA kv.1) (ys.map fun kv => kV kv.1)
  | [], _, h => by cases (show _ = [] from h); rfl
  | (k, v) :: r, _, ⟨y, t, e, _, qs⟩ => by subst e; exact ⟨_, _, rfl, keyA_ok k, keysV_ok qs⟩
theorem CallR.or {f : Value} {r r' : List V → Hp → VK → Prop} (h : CallR X f r) (h' : CallR X f r') : CallR X f (fun xs H Q => r xs H Q ∨ r' xs H Q) := fun pins s σ H xs us Q I rx q =>
  q.elim (fun q => h pins s σ H xs us Q I rx q) fun q => h' pins s σ H xs us Q I rx q
theorem VRs.atX {K : PySem.W.Frag} {F : Hp} {β : List Addr} {xs : List Va} {ys : List V} {i : Nat} (q : VRs K F β xs ys) {x : V} (h : ys[i]? = some x) : ∃ v, xs[i]? = some v ∧ VR K F β v x := by
  have hi : i < xs.length := by rw [q.len]; exact lt_of_get h
  obtain ⟨z, h1, h2⟩ := q.get (i := i) (v := xs[i]) (by simp [hi])
  rw [h] at h1
  cases h1
  exact ⟨xs[i], by simp [hi], h2⟩
theorem blt_ok (hc : X.calm = true) (hu65 : X.A.units + 65 < cLine) (f : Bf) : ∃ r, CallR X (bfV f) r ∧ BltS X cA f r := by
  cases f
  case list =>
    refine ⟨_, CallR.or call_list_of (call_listD hc), fun F β S H vs xs Q s rs q => ?_⟩
    have dic : ∀ {v : Va} {kvs : List (Key × Va)}, vs = [v] → LD S v kvs → post X.K cA F β Q (.loc S.length) (S ++ [.lst (kvs.map fun kv => keyA kv.1)]) → ∃ (a : Addr) (kvs : List (Key × V)), xs = [.ref a] ∧ Rd H a (.dK kvs) ∧ ∀ p, H p = none → Q (.ref p) (upd H p (.lst (kvs.map fun kv => kV kv.1))) := fun {v kvs} hv hd p => by
      subst hv
      obtain ⟨x, rfl, r⟩ := one_of rs
      obtain ⟨a, ys, rfl, e2, qq⟩ := hd.ok s r
      refine ⟨a, ys, rfl, Rd.of e2, post_new s ?_ p⟩
      exact keysV_ok qq
    unfold wBlt at q
    split at q <;> first | exact q.elim | skip
    all_goals simp only [reduceCtorEq] at *
    · obtain ⟨x, rfl, a, ys, rfl, t, qq⟩ := one_of rs
      exact .inl ⟨a, ys, rfl, .inl (SqL.of (s.sub _ _ t)), post_new s qq q⟩
    · obtain ⟨x, rfl, a, ys, rfl, t, qq⟩ := one_of rs
      exact .inl ⟨a, ys, rfl, .inr (SqT.mono s.sub t), post_new s qq q⟩
    · obtain ⟨x, rfl, a, rfl, t⟩ := one_of rs
      exact .inl ⟨a, _, rfl, .inl (SqL.mono s.sub t), post_new s (VRs.ints.mpr rfl) q⟩
    · obtain ⟨o, h0, q⟩ := q
      cases o with
      | lst zs =>
        obtain ⟨x, rfl, r⟩ := one_of rs
        obtain ⟨a, ys, rfl, e2, qq⟩ := LV.ok s (.inr ⟨_, rfl, h0⟩) r
        exact .inl ⟨a, ys, rfl, .inl (SqL.of e2), post_new s qq q⟩
      | dct kvs => exact .inr (dic rfl (.inr ⟨_, rfl, h0⟩) q)
      | _ => exact q.elim
    · exact .inr (dic rfl (.inl rfl) q)
  case dict =>
    refine ⟨_, call_dictD, fun F β S H vs xs Q s rs q => ?_⟩
    unfold wBlt at q
    split at q <;> first | exact q.elim | skip
    all_goals simp only [reduceCtorEq] at *
    obtain ⟨x, rfl, r⟩ := one_of rs
    obtain ⟨kvs, hd, q⟩ := q
    obtain ⟨a, ys, rfl, e2, qq⟩ := hd.ok s r
    exact ⟨a, ys, rfl, Rd.of e2, post_dct s qq q⟩
  case tuple =>
    refine ⟨_, call_tuple_of, fun F β S H vs xs Q s rs q => ?_⟩
    unfold wBlt at q
    split at q <;> first | exact q.elim | skip
    all_goals simp only [reduceCtorEq] at *
    · obtain ⟨x, rfl, a, ys, rfl, t, qq⟩ := one_of rs
      exact ⟨a, ys, rfl, .inl ⟨SqL.of (s.sub _ _ t), post_tup s qq q⟩⟩
    · obtain ⟨x, rfl, a, ys, rfl, t, qq⟩ := one_of rs
      exact ⟨a, ys, rfl, .inr ⟨SqT.mono s.sub t, q F β H _ (Ext.refl _ _) s ⟨a, ys, rfl, t, qq⟩⟩⟩
    · obtain ⟨x, rfl, r⟩ := one_of rs
      obtain ⟨zs, h0, q⟩ := q
      obtain ⟨a, ys, rfl, e2, qq⟩ := LV.ok s (.inr ⟨_, rfl, h0⟩) r
      exact ⟨a, ys, rfl, .inl ⟨SqL.of e2, post_tup s qq q⟩⟩
  case sum =>
    refine ⟨_, cr_sum hc, fun F β S H vs xs Q s rs q => ?_⟩
    unfold wBlt at q
    split at q <;> first | exact q.elim | skip
    all_goals simp only [reduceCtorEq] at *
    obtain ⟨x, rfl, r⟩ := one_of rs
    obtain ⟨ns, h1, q⟩ := q
    obtain ⟨a, rfl, e⟩ := h1.ints s r
    exact ⟨a, ns, rfl, SqL.of e, post_here (v := .int _) s rfl q⟩
  case max1 =>
    refine ⟨_, cr_max hc, fun F β S H vs xs Q s rs q => ?_⟩
    unfold wBlt at q
    split at q <;> first | exact q.elim | skip
    all_goals simp only [reduceCtorEq] at *
    obtain ⟨x, rfl, r⟩ := one_of rs
    obtain ⟨ns, h1, h2, q⟩ := q
    obtain ⟨a, rfl, e⟩ := h1.ints s r
    exact ⟨a, ns, rfl, SqL.of e, h2, fun m h3 h4 => post_here (v := .int _) s rfl (q m h3 h4)⟩
  case maxT =>
    refine ⟨_, cr_maxY hc hu65, fun F β S H vs xs Q s rs q => ?_⟩
    unfold wBlt at q
    split at q <;> first | exact q.elim | skip
    all_goals simp only [reduceCtorEq] at *
    obtain ⟨x, rfl, r⟩ := one_of rs
    obtain ⟨us, ds, k1, k2, k3, k4, k5, k6⟩ := q
    obtain ⟨b, ys, rfl, e3, qq⟩ := k1.ok s r
    refine ⟨b, ys, ds, rfl, SqL.of e3, DVs.dp s k2 qq, k3, k4, k5, fun y zs i w e hw hd => ?_⟩
    obtain ⟨w', hw', rw'⟩ := qq.atX hw
    exact post_here s rw' (k6 y zs i w' e hw' hd)
  case min1 =>
    refine ⟨_, cr_min hc, fun F β S H vs xs Q s rs q => ?_⟩
    unfold wBlt at q
    split at q <;> first | exact q.elim | skip
    all_goals simp only [reduceCtorEq] at *
    obtain ⟨x, rfl, r⟩ := one_of rs
    obtain ⟨ns, h1, h2, q⟩ := q
    obtain ⟨a, rfl, e⟩ := h1.ints s r
    exact ⟨a, ns, rfl, SqL.of e, h2, fun m h3 h4 => post_here (v := .int _) s rfl (q m h3 h4)⟩
  case max2 =>
    refine ⟨_, call_max2 hc, fun F β S H vs xs Q s rs q => ?_⟩
    unfold wBlt at q
    split at q <;> first | exact q.elim | skip
    all_goals simp only [reduceCtorEq] at *
    obtain ⟨x, y, rfl, r1, r2⟩ := two_of rs
    cases r1; cases r2
    exact ⟨_, _, rfl, post_here (v := .int _) s rfl q⟩
  case min2 =>
    refine ⟨_, call_min2 hc, fun F β S H vs xs Q s rs q => ?_⟩
    unfold wBlt at q
    split at q <;> first | exact q.elim | skip
    all_goals simp only [reduceCtorEq] at *
    obtain ⟨x, y, rfl, r1, r2⟩ := two_of rs
    cases r1; cases r2
    exact ⟨_, _, rfl, post_here (v := .int _) s rfl q⟩
  case sorted =>
    refine ⟨_, CallR.or (CallR.or cr_sortedI (call_sortedDI hc)) (CallR.or cr_sortedS (call_sortedD hc)), fun F β S H vs xs Q s rs q => ?_⟩
    unfold wBlt at q
    split at q <;> first | exact q.elim | skip
    all_goals simp only [reduceCtorEq] at *
    obtain ⟨x, rfl, r⟩ := one_of rs
    rcases q with (⟨kvs, ks, hd, h1, q⟩ | ⟨ns, h1, q⟩) | ⟨kvs, ks, hd, h1, q⟩ | ⟨ns, h1, q⟩
    · obtain ⟨a, ys, rfl, e2, qq⟩ := hd.ok s r
      exact .inl (.inr ⟨a, ys, ks, rfl, Rd.of e2, qq.keys.trans h1, q.1, fun ns' p h3 h4 hp => post_new s (VRs.ints.mpr rfl) (q.2 ns' h3 h4) p hp⟩)
    · obtain ⟨a, rfl, e⟩ := h1.ints s r
      exact .inl (.inl ⟨a, ns, rfl, SqL.of e, fun ns' p h3 h4 hp => post_new s (VRs.ints.mpr rfl) (q ns' h3 h4) p hp⟩)
    · obtain ⟨a, ys, rfl, e2, qq⟩ := hd.ok s r
      exact .inr (.inr ⟨a, ys, ks, rfl, Rd.of e2, qq.keys.trans h1, q.1, fun ns' p h3 h4 hp => post_new s (VRs.strs.mpr rfl) (q.2 ns' h3 h4) p hp⟩)
    · obtain ⟨a, ys, rfl, h2, h3⟩ := h1.ok s r
      rw [VRs.strs.mp h3] at h2
      exact .inr (.inl ⟨a, ns, rfl, SqL.of h2, q.1, fun ns' p h3 h4 hp => post_new s (VRs.strs.mpr rfl) (q.2 ns' h3 h4) p hp⟩)
  case ord =>
    refine ⟨_, call_ord, fun F β S H vs xs Q s rs q => ?_⟩
    unfold wBlt at q
    split at q <;> first | exact q.elim | skip
    all_goals simp only [reduceCtorEq] at *
    obtain ⟨x, rfl, r⟩ := one_of rs
    cases r
    exact ⟨_, rfl, q.1, post_here (v := .int _) s rfl q.2⟩
  case str =>
    refine ⟨_, call_str_int, fun F β S H vs xs Q s rs q => ?_⟩
    unfold wBlt at q
    split at q <;> first | exact q.elim | skip
    all_goals simp only [reduceCtorEq] at *
    obtain ⟨x, rfl, r⟩ := one_of rs
    cases r
    exact ⟨_, rfl, q.1, post_here (v := .str _) s rfl q.2⟩
  case int =>
    refine ⟨_, CallR.or call_int_str call_int1, fun F β S H vs xs Q s rs q => ?_⟩
    unfold wBlt at q
    split at q <;> first | exact q.elim | skip
    all_goals simp only [reduceCtorEq] at *
    · obtain ⟨x, rfl, r⟩ := one_of rs
      cases r
      exact .inr (.inr ⟨_, rfl, post_here (v := .int _) s rfl q⟩)
    · obtain ⟨x, rfl, r⟩ := one_of rs
      cases r
      exact .inr (.inl ⟨_, rfl, post_here (v := .int _) s rfl q⟩)
    · obtain ⟨x, rfl, r⟩ := one_of rs
      cases r
      obtain ⟨n, h1, h2, q⟩ := q
      exact .inl ⟨_, n, rfl, h1, h2, post_here (v := .int _) s rfl q⟩
  case all =>
    refine ⟨_, cr_all hc, fun F β S H vs xs Q s rs q => ?_⟩
    unfold wBlt at q
    split at q <;> first | exact q.elim | skip
    all_goals simp only [reduceCtorEq] at *
    obtain ⟨x, rfl, r⟩ := one_of rs
    obtain ⟨bs, h1, q⟩ := q
    obtain ⟨a, rfl, e⟩ := h1.bls s r
    exact ⟨a, bs, rfl, SqL.of e, post_here (v := .bl _) s rfl q⟩
  case any =>
    refine ⟨_, cr_any hc, fun F β S H vs xs Q s rs q => ?_⟩
    unfold wBlt at q
    split at q <;> first | exact q.elim | skip
    all_goals simp only [reduceCtorEq] at *
    obtain ⟨x, rfl, r⟩ := one_of rs
    obtain ⟨bs, h1, q⟩ := q
    obtain ⟨a, rfl, e⟩ := h1.bls s r
    exact ⟨a, bs, rfl, SqL.of e, post_here (v := .bl _) s rfl q⟩
theorem blt_call {f : Bf} {r : List V → Hp → VK → Prop} {e : Expr} {es : List Expr} {t : TA} {p pos : Pos} (hr : CallR X (bfV f) r) (hg : Gl X (bfN f)) (hm : X.mg (bfN f) = none) (ha : PA X (e :: es) t)
    (he : starEach (e :: es) X.env = (false, eval e X.env) :: starEach es X.env) (hpl : (backTo pos (starEach es X.env)).any (·.1) = false) : PE X (.Call (.Name (bfN f) p) (e :: es) [] pos) (tCB r t) := by
  cases f
  case list => exact pe_callTy hr hg hm (by decide +kernel) ha (he := he) (hpl := hpl)
  case tuple => exact pe_callTy hr hg hm (by decide +kernel) ha (he := he) (hpl := hpl)
  case dict => exact pe_callTy hr hg hm (by decide +kernel) ha (he := he) (hpl := hpl)
  case sum => exact pe_callB hr hg hm (by decide +kernel) ha (he := he) (hpl := hpl)
  case max1 => exact pe_callB hr hg hm (by decide +kernel) ha (he := he) (hpl := hpl)
  case maxT => exact pe_callB hr hg hm (by decide +kernel) ha (he := he) (hpl := hpl)
  case min1 => exact pe_callB hr hg hm (by decide +kernel) ha (he := he) (hpl := hpl)
  case max2 => exact pe_callB hr hg hm (by decide +kernel) ha (he := he) (hpl := hpl)
  case min2 => exact pe_callB hr hg hm (by decide +kernel) ha (he := he) (hpl := hpl)
  case sorted => exact pe_callB hr hg hm (by decide +kernel) ha (he := he) (hpl := hpl)
  case ord => exact pe_callB hr hg hm (by decide +kernel) ha (he := he) (hpl := hpl)
  case str => exact pe_callTy hr hg hm (by decide +kernel) ha (he := he) (hpl := hpl)
  case int => exact pe_callTy hr hg hm (by decide +kernel) ha (he := he) (hpl := hpl)
  case all => exact pe_callB hr hg hm (by decide +kernel) ha (he := he) (hpl := hpl)
  case any => exact pe_callB hr hg hm (by decide +kernel) ha (he := he) (hpl := hpl)

def mfT : Mf → String
  | .join => "str" | .upper => "str" | .partition => "str" | .split => "str" | .endswith => "str" | .find => "str" | _ => "list"
def mfI : Mf → String
  | .append => "list.append" | .pop => "list.pop" | .extend => "list.extend" | .insert => "list.insert" | .join => "str.join" | .index => "list.index" | .clear => "list.clear" | .remove => "list.remove" | .upper => "str.upper" | .partition => "str.partition" | .split => "str.split" | .endswith => "str.endswith" | .find => "str.find" | .count => "list.count"
theorem mOk_ty {F : Hp} {β : List Addr} {S : Sto} {H : Hp} {m : Mf} {v : Va} {x : V} (s : Sim X.K cA F β S H) (r : VR X.K F β v x) (h : mOk S m v) : tyV X.K (mfT m) x H := by
  have key : (∃ xs, LV S v xs) → tyV X.K "list" x H := fun ⟨xs, h⟩ => by
    obtain ⟨a, ys, rfl, e, _⟩ := h.ok s r
    exact .inl ⟨rfl, ys, SqL.of e⟩
  cases m <;> first | exact key h | skip
  all_goals
    obtain ⟨a, rfl⟩ := h
    cases r
    rfl
def MthS (X : Cx) (cA : Str → Addr) (m : Mf) (r : V → List V → Hp → VK → Prop) : Prop := ∀ (F : Hp) (β : List Addr) (S : Sto) (H : Hp) (v : Va) (x : V) (vs : List Va) (xs : List V) (Q : VK), Sim X.K cA F β S H → VR X.K F β v x → VRs X.K F β vs xs → wMth m v vs S (post X.K cA F β Q) → r x xs H Q
/-- a list of the store written anew -/
theorem put_lst {K : PySem.W.Frag} {F : Hp} {β : List Addr} {S : Sto} {H : Hp} {k : Nat} {a : Addr} {o : Ob} {xs : List Va} {ys : List V} (s : Sim K cA F β S H) (hk : S[k]? = some o) (ha : β[k]? = some a) (r : VRs K F β xs ys) (no : ∀ q, o ≠ .lok q := by intro _ h; cases h) : Sim K cA F β (S.set k (.lst xs)) (upd H a (.lst ys)) := by
  obtain ⟨b, e1, fa, _⟩ := s.at hk
  rw [ha] at e1
  cases e1
  exact s.put (lt_of_get hk) ha (fa.out no) ⟨ys, upd_same, r⟩
theorem loc_ok {K : PySem.W.Frag} {F : Hp} {β : List Addr} {S : Sto} {H : Hp} {k : Nat} {x : V} {xs : List Va} (s : Sim K cA F β S H) (hk : S[k]? = some (.lst xs)) (r : VR K F β (.loc k) x) : ∃ a ys, x = .ref a ∧ β[k]? = some a ∧ H a = some (.lst ys) ∧ VRs K F β xs ys := by
  obtain ⟨a, rfl, t⟩ := r
  obtain ⟨b, e1, _, ys, e2, q⟩ := s.at hk
  rw [t] at e1
  cases (Option.some.inj e1)
  exact ⟨a, ys, rfl, t, e2, q⟩
theorem mth_ok (hu1 : X.A.units + 65 < cLine) (m : Mf) : ∃ r, MtR X (mfI m) r ∧ MthS X cA m r := by
  cases m
  case count =>
    refine ⟨_, mt_countD hu1, fun F β S H v x vs xs Q s r rs q => ?_⟩
    unfold wMth at q
    split at q <;> first | exact q.elim | skip
    all_goals simp only [reduceCtorEq] at *
    obtain ⟨d, ds, h0, h1, h2, h3, q⟩ := q
    obtain ⟨y, rfl, ry⟩ := one_of rs
    have hd := DV.dp s h0 r
    obtain ⟨a, rfl⟩ : ∃ a, x = .ref a := by
      cases hd; exact ⟨_, rfl⟩
    exact ⟨a, y, d, ds, rfl, rfl, hd, DV.dp s h1 ry, h2, h3, post_here (v := .int _) s rfl q⟩
  case append =>
    refine ⟨_, mt_append, fun F β S H v x vs xs Q s r rs q => ?_⟩
    unfold wMth at q
    split at q <;> first | exact q.elim | skip
    all_goals simp only [reduceCtorEq] at *
    obtain ⟨zs, h0, h1, q⟩ := q
    obtain ⟨a, ys, rfl, ha, e2, qq⟩ := loc_ok s h0 r
    obtain ⟨y, rfl, ry⟩ := one_of rs
    refine ⟨a, ys, y, rfl, rfl, e2, by rw [← qq.len]; exact Nat.lt_trans h1 (by decide), post_here (v := .non) (put_lst s h0 ha ?_) rfl q⟩
    exact VRs.append qq (VRs.one ry)
  case pop =>
    refine ⟨_, mt_pop, fun F β S H v x vs xs Q s r rs q => ?_⟩
    unfold wMth at q
    split at q <;> first | exact q.elim | skip
    all_goals simp only [reduceCtorEq] at *
    obtain ⟨zs, h0, w, h1, q⟩ := q
    obtain ⟨a, ys, rfl, ha, e2, qq⟩ := loc_ok s h0 r
    obtain ⟨z, hz, rz⟩ := qq.get h1
    cases (show xs = [] from rs)
    refine ⟨a, ys, z, rfl, rfl, e2, by rw [← qq.len]; exact hz, post_here (put_lst s h0 ha qq.dropLast) rz q⟩
  case extend =>
    refine ⟨_, mt_extend, fun F β S H v x vs xs Q s r rs q => ?_⟩
    unfold wMth at q
    split at q <;> first | exact q.elim | skip
    all_goals simp only [reduceCtorEq] at *
    obtain ⟨zs, h0, ws, hz, h1, q⟩ := q
    obtain ⟨a, ys, rfl, ha, e2, qq⟩ := loc_ok s h0 r
    obtain ⟨y, rfl, ry⟩ := one_of rs
    obtain ⟨b, us, rfl, e3, qu⟩ := hz.ok s ry
    exact ⟨a, b, ys, us, rfl, rfl, e2, e3, by rw [← qq.len, ← qu.len]; exact Nat.le_trans h1 (by decide), post_here (v := .non) (put_lst s h0 ha (qq.append qu)) rfl q⟩
  case insert =>
    refine ⟨_, mt_insert, fun F β S H v x vs xs Q s r rs q => ?_⟩
    unfold wMth at q
    split at q <;> first | exact q.elim | skip
    all_goals simp only [reduceCtorEq] at *
    obtain ⟨zs, h0, h1, h2, h3, q⟩ := q
    obtain ⟨a, ys, rfl, ha, e2, qq⟩ := loc_ok s h0 r
    obtain ⟨i, y, rfl, ri, ry⟩ := two_of rs
    cases ri
    refine ⟨a, ys, _, y, rfl, rfl, e2, by rw [← qq.len]; exact Nat.lt_trans h1 (by decide), h2, h3, post_here (v := .non) (put_lst s h0 ha ?_) rfl q⟩
    exact VRs.append (VRs.append (qq.take _) (VRs.one ry)) (qq.drop _)
  case join =>
    refine ⟨_, mt_join, fun F β S H v x vs xs Q s r rs q => ?_⟩
    unfold wMth at q
    split at q <;> first | exact q.elim | skip
    all_goals simp only [reduceCtorEq] at *
    obtain ⟨ws, h0, h1, q⟩ := q
    cases r
    obtain ⟨y, rfl, ry⟩ := one_of rs
    rcases h0 with rfl | h0
    · obtain ⟨a, ys, rfl, t, qq⟩ := ry
      rw [VRs.strs.mp qq] at t
      exact ⟨_, a, ws, rfl, rfl, .inr (SqT.mono s.sub t), h1, post_here (v := .str _) s rfl q⟩
    · obtain ⟨a, ys, rfl, t, qq⟩ := h0.ok s ry
      rw [VRs.strs.mp qq] at t
      exact ⟨_, a, ws, rfl, rfl, .inl (SqL.of t), h1, post_here (v := .str _) s rfl q⟩
  case index =>
    refine ⟨_, mt_indexD hu1, fun F β S H v x vs xs Q s r rs q => ?_⟩
    unfold wMth at q
    split at q <;> first | exact q.elim | skip
    all_goals simp only [reduceCtorEq] at *
    obtain ⟨d, ds, j, z, h0, h1, h2, h3, h4, h5, h6, q⟩ := q
    obtain ⟨y, rfl, ry⟩ := one_of rs
    have hd := DV.dp s h0 r
    obtain ⟨a, rfl⟩ : ∃ a, x = .ref a := by
      cases hd; exact ⟨_, rfl⟩
    exact ⟨a, y, d, ds, j, z, rfl, rfl, hd, DV.dp s h1 ry, h2, h3, h4, h5, h6, post_here (v := .int _) s rfl q⟩
  case clear =>
    refine ⟨_, mt_clear, fun F β S H v x vs xs Q s r rs q => ?_⟩
    unfold wMth at q
    split at q <;> first | exact q.elim | skip
    all_goals simp only [reduceCtorEq] at *
    obtain ⟨zs, h0, q⟩ := q
    obtain ⟨a, ys, rfl, ha, e2, qq⟩ := loc_ok s h0 r
    cases (show xs = [] from rs)
    exact ⟨a, ys, rfl, rfl, e2, post_here (v := .non) (put_lst s h0 ha (show VRs _ _ _ [] [] from rfl)) rfl q⟩
  case upper =>
    refine ⟨_, mt_upper, fun F β S H v x vs xs Q s r rs q => ?_⟩
    unfold wMth at q
    split at q <;> first | exact q.elim | skip
    all_goals simp only [reduceCtorEq] at *
    obtain ⟨h1, q⟩ := q
    cases r
    cases (show xs = [] from rs)
    exact ⟨_, rfl, rfl, h1, post_here (v := .str _) s rfl q⟩
  case partition =>
    refine ⟨_, mt_partition, fun F β S H v x vs xs Q s r rs q => ?_⟩
    unfold wMth at q
    split at q <;> first | exact q.elim | skip
    all_goals simp only [reduceCtorEq] at *
    obtain ⟨h1, h2, q⟩ := q
    cases r
    obtain ⟨y, rfl, ry⟩ := one_of rs
    cases ry
    exact ⟨_, _, rfl, rfl, h1, h2, post_tup s (VRs.strs (ns := [_, _, _]).mpr rfl) q⟩
  case split =>
    refine ⟨_, mt_split, fun F β S H v x vs xs Q s r rs q => ?_⟩
    unfold wMth at q
    split at q <;> first | exact q.elim | skip
    all_goals simp only [reduceCtorEq] at *
    obtain ⟨h1, h2, q⟩ := q
    cases r
    obtain ⟨y, rfl, ry⟩ := one_of rs
    cases ry
    exact ⟨_, _, rfl, rfl, h1, h2, post_new s (VRs.strs.mpr rfl) q⟩
  case endswith =>
    refine ⟨_, mt_endswith, fun F β S H v x vs xs Q s r rs q => ?_⟩
    unfold wMth at q
    split at q <;> first | exact q.elim | skip
    all_goals simp only [reduceCtorEq] at *
    cases r
    obtain ⟨y, rfl, ry⟩ := one_of rs
    cases ry
    exact ⟨_, _, rfl, rfl, post_here (v := .bl _) s rfl q⟩
  case find =>
    refine ⟨_, mt_find, fun F β S H v x vs xs Q s r rs q => ?_⟩
    unfold wMth at q
    split at q <;> first | exact q.elim | skip
    all_goals simp only [reduceCtorEq] at *
    cases r
    obtain ⟨y, rfl, ry⟩ := one_of rs
    cases ry
    exact ⟨_, _, rfl, rfl, post_here (v := .int _) s rfl q⟩
  case remove =>
    refine ⟨_, mt_remove, fun F β S H v x vs xs Q s r rs q => ?_⟩
    unfold wMth at q
    split at q <;> first | exact q.elim | skip
    all_goals simp only [reduceCtorEq] at *
    obtain ⟨ns, j, h0, h1, h2, q⟩ := q
    obtain ⟨a, ys, rfl, ha, e2, qq⟩ := loc_ok s h0 r
    obtain ⟨y, rfl, ry⟩ := one_of rs
    cases ry
    cases VRs.ints.mp qq
    exact ⟨a, ns, _, j, rfl, rfl, e2, h1, h2, post_here (v := .non) (put_lst s h0 ha (VRs.ints.mpr rfl)) rfl q⟩
theorem few_ok {es : List Expr} {pos : Pos} {env : PySem.Env} (h1 : (backTo pos (starEach es env)).any (·.1) = false) (h2 : es.length < 28) : ((backTo pos (starEach es env)).all (fun x => !x.1) && (backToKw pos (keywordEach [] env)).all (fun x => x.1.isSome)
      && decide (es.length + ([] : List Keyword).length + (if ([] : List Keyword).isEmpty then 0 else 1) < 30)) = true := by
  have e1 : (backTo pos (starEach es env)).all (fun x => !x.1) = true := by
    rw [List.all_eq_true]
    intro x hx
    rw [List.any_eq_false] at h1
    have := h1 x hx
    simpa using this
  rw [e1]
  have e2 : (backToKw pos (keywordEach [] env)).all (fun x => x.1.isSome) = true := rfl
  rw [e2]
  simp
  omega
theorem plainB_ok {o : Expr} (h : plainB o = true) (nm : Str) (env : PySem.Env) (w : Sem Value) : attributeBase o nm env w = w := by
  cases o <;> first | rfl | cases h | skip
  rename_i f as ks p
  cases as <;> first | cases h | skip
  cases f <;> rfl
/-- a method of a built-in thing, of no arguments -/
theorem mth_call0 {m : Mf} {r : V → List V → Hp → VK → Prop} {o : Expr} {to : TE} {apos pos : Pos} (hr : MtR X (mfI m) r) (ho : PE X o to) (hb : plainB o = true) (hl : (apos.endLine == pos.line) = true) (hn : mfA m = 0) :
    PE X (.Call (.Attribute o (mfN m) apos) [] [] pos) (tBM0 X.K (mfT m) r to) := by
  have hbase := plainB_ok hb (mfN m) X.env (eval o X.env)
  cases m <;> first | cases hn | skip
  · exact pe_bm0 PySem.F.plainAttrs_list PySem.F.slot_list_pop PySem.F.type_list_pop hr ho hbase hl
  · exact pe_bm0 PySem.F.plainAttrs_list PySem.F.slot_list_clear PySem.F.type_list_clear hr ho hbase hl
  · exact pe_bm0 PySem.F.plainAttrs_str PySem.F.slot_str_upper PySem.F.type_str_upper hr ho hbase hl
/-- .. of some -/
theorem mth_call {m : Mf} {r : V → List V → Hp → VK → Prop} {o e : Expr} {es : List Expr} {to : TE} {t : TA} {apos pos : Pos} (hr : MtR X (mfI m) r) (ho : PE X o to) (ha : PA X (e :: es) t) (hb : plainB o = true) (hl : (apos.endLine == pos.line) = true)
    (hn : (e :: es).length = mfA m) (hst : (backTo pos (starEach (e :: es) X.env)).any (·.1) = false) (c1 : starEach (e :: es) X.env = (false, eval e X.env) :: starEach es X.env) (c2 : (backTo pos (starEach es X.env)).any (·.1) = false) :
    PE X (.Call (.Attribute o (mfN m) apos) (e :: es) [] pos) (tBM X.K (mfT m) r to t) := by
  have hbase := plainB_ok hb (mfN m) X.env (eval o X.env)
  have hf : ((backTo pos (starEach (e :: es) X.env)).all (fun x => !x.1) && (backToKw pos (keywordEach [] X.env)).all (fun x => x.1.isSome)
      && decide ((e :: es).length + ([] : List Keyword).length + (if ([] : List Keyword).isEmpty then 0 else 1) < 30)) = true := few_ok hst (by rw [hn]; cases m <;> decide)
  cases m
  case append => exact pe_bm PySem.F.plainAttrs_list PySem.F.slot_list_append PySem.F.type_list_append hr ho ha hbase hf hl c1 c2
  case pop => cases hn
  case extend => exact pe_bm PySem.F.plainAttrs_list PySem.F.slot_list_extend PySem.F.type_list_extend hr ho ha hbase hf hl c1 c2
  case insert => exact pe_bm PySem.F.plainAttrs_list PySem.F.slot_list_insert PySem.F.type_list_insert hr ho ha hbase hf hl c1 c2
  case join => exact pe_bm PySem.F.plainAttrs_str PySem.F.slot_str_join PySem.F.type_str_join hr ho ha hbase hf hl c1 c2
  case index => exact pe_bm PySem.F.plainAttrs_list PySem.F.slot_list_index PySem.F.type_list_index hr ho ha hbase hf hl c1 c2
  case clear => cases hn
  case upper => cases hn
  case partition => exact pe_bm PySem.F.plainAttrs_str PySem.F.slot_str_partition PySem.F.type_str_partition hr ho ha hbase hf hl c1 c2
  case split => exact pe_bm PySem.F.plainAttrs_str PySem.F.slot_str_split PySem.F.type_str_split hr ho ha hbase hf hl c1 c2
  case endswith => exact pe_bm PySem.F.plainAttrs_str PySem.F.slot_str_endswith PySem.F.type_str_endswith hr ho ha hbase hf hl c1 c2
  case find => exact pe_bm PySem.F.plainAttrs_str PySem.F.slot_str_find PySem.F.type_str_find hr ho ha hbase hf hl c1 c2
  case remove => exact pe_bm PySem.F.plainAttrs_list PySem.F.slot_list_remove PySem.F.type_list_remove hr ho ha hbase hf hl c1 c2
  case count => exact pe_bm PySem.F.plainAttrs_list PySem.F.slot_list_count PySem.F.type_list_count hr ho ha hbase hf hl c1 c2
end
/-! ### objects -/
section
variable {X : Cx} {CX : CXT} {n : Nat} {E : St → XK} {x m : Str} {p pos apos : Pos} {e o : Expr} {es : List Expr} {to : TE} {t : TA}
/-- a method, by what the thing turns out to be -/
def tMethD (X : Cx) (CX : CXT) (n : Nat) (E : St → XK) (m : Str) (to : TE) (t : TA) : TE := fun σ H Q => to σ H fun x H1 => ∃ (a C dx : Addr) (fs : List (Str × V)) (g : Addr) (fd : FuncData) (ps : List Str) (sp : Sp),
  x = .ref a ∧ H1 a = some (.ins C dx fs) ∧ fs.lookup m = none ∧ Cls X.K C ∧ Meth X.K C m g ∧ Binds X.K fd ps [] ∧ FnOk X.prog X.w X.K X.mg X.base CX n g fd ps sp ∧ t σ H1 fun vs H2 => sp (x :: vs) H2 Q (E σ)
theorem pe_methD {pl : Sem Bool} (hr : Room n X.A) (hx : ∀ σ, PassesAt CX X σ (E σ)) (ho : PE X o to) (ha : PA X (e :: es) t) (c1 : starEach (e :: es) X.env = (false, eval e X.env) :: starEach es X.env) (c2 : (backTo pos (starEach es X.env)).any (·.1) = false)
    (ht : eval (.Call (.Attribute o m apos) (e :: es) [] pos) X.env = (do
      let ov ← eval o X.env
      standAt apos.atName
      let (f, first) ← holding [ov] (getMethod ov m pl)
      callWith pos f first (backTo pos (starEach (e :: es) X.env)) (backToKw pos (keywordEach [] X.env)))) : PE X (.Call (.Attribute o m apos) (e :: es) [] pos) (tMethD X CX n E m to t) := by
  refine ⟨fun pins s σ H Q I h => PySem.W.methodCall_KW (pl := pl) (thn (ho.run pins s σ H _ I h) fun w s1 ⟨y, H1, I1, ry, b, C, dx, fs, g, fd, ps, sp, ey, hb, hl, hc, hm, hbi, F, q⟩ => ?_) ht⟩
  cases ey
  cases ry
  refine getmeth_ok I1 hb hc hm hl (PySem.W.callWith_K (first := [.ref b]) (h₀ := X.base) I.ok.mod.kin hm.kp (thn (ha.run pos pins s1 σ H1 _ I1 q) fun ws s2 ⟨ys, H2, I2, rs, q2⟩ => ⟨I2.kIn, ?_⟩) c1 c2)
  exact run_fnS (us := .ref b :: ws) (vs := .ref b :: ys) F hr hbi (hx σ) I2 (.cons rfl rs) q2
theorem pe_methD0 {pl : Sem Bool} (hr : Room n X.A) (hx : ∀ σ, PassesAt CX X σ (E σ)) (ho : PE X o to)
    (ht : eval (.Call (.Attribute o m apos) [] [] pos) X.env = (do
      let ov ← eval o X.env
      standAt apos.atName
      let (f, first) ← holding [ov] (getMethod ov m pl)
      callWith pos f first (backTo pos (starEach [] X.env)) (backToKw pos (keywordEach [] X.env)))) : PE X (.Call (.Attribute o m apos) [] [] pos) (tMethD X CX n E m to tNil) := by
  refine ⟨fun pins s σ H Q I h => PySem.W.methodCall_KW (pl := pl) (thn (ho.run pins s σ H _ I h) fun w s1 ⟨y, H1, I1, ry, b, C, dx, fs, g, fd, ps, sp, ey, hb, hl, hc, hm, hbi, F, q⟩ => ?_) ht⟩
  cases ey
  cases ry
  exact getmeth_ok I1 hb hc hm hl (PySem.W.callWith_K0 (first := [.ref b]) I1.kIn hm.kp (run_fnS (us := [.ref b]) (vs := [.ref b]) F hr hbi (hx σ) I1 (.cons rfl .nil) q))
/-- any thing's method, plainly written -/
theorem mcall_eq {env : PySem.Env} (hb : plainB o = true) (hl : (apos.endLine == pos.line) = true) (hf : ((backTo pos (starEach es env)).all (fun x => !x.1) && (backToKw pos (keywordEach [] env)).all (fun x => x.1.isSome) && decide (es.length + ([] : List Keyword).length + (if ([] : List Keyword).isEmpty then 0 else 1) < 30)) = true) :
    eval (.Call (.Attribute o m apos) es [] pos) env = (do
      let ov ← eval o env
      standAt apos.atName
      let (f, first) ← holding [ov] (getMethod ov m (do return (← importBound o env).getD true))
      callWith pos f first (backTo pos (starEach es env)) (backToKw pos (keywordEach [] env))) := by
  have hform : methodCallForm (es.length + ([] : List Keyword).length) (backTo pos (starEach es env)) (backToKw pos (keywordEach [] env)) = true := hf
  have hpos : methodCallPos true o env apos pos = pure pos := by unfold methodCallPos; simp [hl]
  rw [arm_eval_Call, plainB_ok hb]
  unfold methodCall
  rw [hform, hpos]
  rfl
theorem pe_mcall (hr : Room n X.A) (hx : ∀ σ, PassesAt CX X σ (E σ)) (hb : plainB o = true) (hl : (apos.endLine == pos.line) = true) (hn : (e :: es).length < 28) (h0 : (backTo pos (starEach (e :: es) X.env)).any (·.1) = false) (ho : PE X o to) (ha : PA X (e :: es) t) (c1 : starEach (e :: es) X.env = (false, eval e X.env) :: starEach es X.env) (c2 : (backTo pos (starEach es X.env)).any (·.1) = false) :
    PE X (.Call (.Attribute o m apos) (e :: es) [] pos) (tMethD X CX n E m to t) := pe_methD hr hx ho ha c1 c2 (mcall_eq hb hl (few_ok h0 hn))
theorem pe_mcall0 (hr : Room n X.A) (hx : ∀ σ, PassesAt CX X σ (E σ)) (hb : plainB o = true) (hl : (apos.endLine == pos.line) = true) (ho : PE X o to) : PE X (.Call (.Attribute o m apos) [] [] pos) (tMethD X CX n E m to tNil) :=
  pe_methD0 hr hx ho (mcall_eq hb hl rfl)
/-- what a maker must give -/
def spMk (C : Addr) (sp : Sp) (vs : List V) (H : Hp) (Q : VK) (E : XK) : Prop := ∀ x dx, H x = none → H dx = none → dx ≠ x → sp (.ref x :: vs) (upd (upd H dx (.own x)) x (.ins C dx [])) (fun v H2 => v = .non ∧ Q (.ref x) H2) E
theorem run_makeS {C f : Addr} {fd : FuncData} {ps : List Str} {sp : Sp} {pins : List (Addr × Obj)} {σ : St} {H : Hp} {s : Shared} {Q : VK} {us : List Value} {vs : List V} (M : Mk X.K C f) (F : FnOk X.prog X.w X.K X.mg X.base CX n f fd ps sp) (hr : Room (n + 1) X.A) (hb : Binds X.K fd ps [])
    (hx : PassesAt CX X σ (E σ)) (I : Inv X pins σ H s) (r : Vals vs us) (h : spMk C sp vs H Q (E σ)) : wpAny (model X.prog X.w) X.A (PySem.call (.ref C) us) (EP X pins σ Q) X.xe s := by
  have hq := h (s.heap.objs.size + 1) s.heap.objs.size (I.hok.fresh (Nat.le_succ _)) (I.hok.fresh (Nat.le_refl _)) (Nat.ne_of_lt (Nat.lt_succ_self _))
  have J := Inv.made (C := C) I
  have r2 : Vals (V.ref (s.heap.objs.size + 1) :: vs) (Value.ref (s.heap.objs.size + 1) :: us) := .cons rfl r
  have hl : (Value.ref (s.heap.objs.size + 1) :: us).length = ps.length := (r2.length.symm).trans (F.len _ _ _ _ hq)
  have b := hb _ (Value.ref (s.heap.objs.size + 1) :: us) J.kIn (by rw [List.append_nil]; exact hl)
  rw [List.append_nil] at b
  refine wpAny_call (make_map (f := f) I.kIn M.makes M.init (beq_iff_eq.mp M.fn) (codeAny_mono (F.run _ X.stack _ _ ⟨Value.ref (s.heap.objs.size + 1) :: us, []⟩ (Value.ref (s.heap.objs.size + 1) :: us) _ _ (E σ) (hr.make C us []) (J.env0.make C us []) b r2 hq) fun res s' hq' => ?_))
  cases res with
  | error er => exact hx pins _ _ er s' J hq'
  | ok fl =>
    cases fl with
    | ret u =>
      obtain ⟨v, H', I3, rv, ev, q3⟩ := J.after hq'
      cases ev
      exact ⟨rv, V.ref (s.heap.objs.size + 1), H', I3, rfl, q3⟩
    | next => exact False.elim hq'
    | brk => exact False.elim hq'
    | cont => exact False.elim hq'
theorem pe_makeS {C f : Addr} {fd : FuncData} {ps : List Str} {sp : Sp} (M : Mk X.K C f) (F : FnOk X.prog X.w X.K X.mg X.base CX n f fd ps sp) (hr : Room (n + 1) X.A) (hg : Gl X x) (hm : X.mg x = some (.ref C)) (hb : Binds X.K fd ps []) (hx : ∀ σ, PassesAt CX X σ (E σ))
    (ha : PA X (e :: es) t) (hdb : (x == ("__debug__" : Str)) = false) (c1 : starEach (e :: es) X.env = (false, eval e X.env) :: starEach es X.env) (c2 : (backTo pos (starEach es X.env)).any (·.1) = false) :
    PE X (.Call (.Name x p) (e :: es) [] pos) (fun σ H Q => t σ H fun vs H1 => spMk C sp vs H1 Q (E σ)) :=
  ⟨fun pins s σ H Q I h => wpAny_Call_Name_kw (ld_glob I hg hm (PySem.W.callWith_K (h₀ := X.base) I.ok.mod.kin M.kp (thn (ha.run pos pins s σ H _ I h) fun us s1 ⟨vs, H1, I1, r, q⟩ => ⟨I1.kIn, run_makeS M F hr hb (hx σ) I1 r q⟩) c1 c2) hdb)⟩
theorem pe_makeS0 {C f : Addr} {fd : FuncData} {ps : List Str} {sp : Sp} (M : Mk X.K C f) (F : FnOk X.prog X.w X.K X.mg X.base CX n f fd ps sp) (hr : Room (n + 1) X.A) (hg : Gl X x) (hm : X.mg x = some (.ref C)) (hb : Binds X.K fd ps []) (hx : ∀ σ, PassesAt CX X σ (E σ))
    (hdb : (x == ("__debug__" : Str)) = false) : PE X (.Call (.Name x p) [] [] pos) (fun σ H Q => spMk C sp [] H Q (E σ)) :=
  ⟨fun pins s σ H Q I h => wpAny_Call_Name_kw (ld_glob I hg hm (PySem.W.callWith_K0 I.kIn M.kp (run_makeS (us := []) M F hr hb (hx σ) I .nil h)) hdb)⟩
/-- a def's call with nothing handed over -/
theorem pe_callZ {f : Addr} {fd : FuncData} {ps : List Str} {sp : Sp} (F : FnOk X.prog X.w X.K X.mg X.base CX n f fd ps sp) (hr : Room n X.A) (hg : Gl X x) (hm : X.mg x = some (.ref f)) (kp : PySem.W.keepIn X.K (.ref f) = true) (hb : Binds X.K fd ps []) (hx : ∀ σ, PassesAt CX X σ (E σ))
    (hdb : (x == ("__debug__" : Str)) = false) : PE X (.Call (.Name x p) [] [] pos) (fun σ H Q => sp [] H Q (E σ)) :=
  ⟨fun pins s σ H Q I h => wpAny_Call_Name_kw (ld_glob I hg hm (PySem.W.callWith_K0 I.kIn kp (run_fnS (us := []) (vs := []) F hr hb (hx σ) I .nil h)) hdb)⟩
theorem run_makeO {C : Addr} {pins : List (Addr × Obj)} {σ : St} {H : Hp} {s : Shared} {Q : VK} (mk : PySem.W.makesIn X.K C = true) (ini : PySem.W.findIn X.K (.ref C) "__init__" = some (some (.builtin "object.__init__"))) (top : PySem.W.mroIn X.K C (.type "object") = some true)
    (I : Inv X pins σ H s) (h : ∀ x dx, H x = none → H dx = none → dx ≠ x → Q (.ref x) (upd (upd H dx (.own x)) x (.ins C dx []))) : wpAny (model X.prog X.w) X.A (PySem.call (.ref C) []) (EP X pins σ Q) X.xe s := by
  have hq := h (s.heap.objs.size + 1) s.heap.objs.size (I.hok.fresh (Nat.le_succ _)) (I.hok.fresh (Nat.le_refl _)) (Nat.ne_of_lt (Nat.lt_succ_self _))
  have J := Inv.made (C := C) I
  refine wpAny_call (make_map0 I.kIn mk ini (fun self => PySem.W.Looks.of_pure (PySem.W.oi_bind _)) ?_)
  have ho : ((s.heap.push PySem.W.emptyDict).push (PySem.W.instObj C s.heap.objs.size)).get? (s.heap.objs.size + 1) = some (PySem.W.instObj C s.heap.objs.size) := by
    rw [← Heap.size_push s.heap PySem.W.emptyDict]
    exact Heap.get?_push_size _ rfl
  have t1 := NwA.type_at (M := model X.prog X.w) ho rfl
  have t2 : PySem.W.Looks (model X.prog X.w) ((s.heap.push PySem.W.emptyDict).push (PySem.W.instObj C s.heap.objs.size)) (isInstance (.ref (s.heap.objs.size + 1)) (.type "object")) true := t1.andThen (PySem.W.looks_mroIn J.kIn top)
  refine codeAny_call_builtin PySem.W.oi_plain PySem.W.entry_oi (@PySem.W.check_slot (model X.prog X.w) _ _ _ "object.__init__" "object" "__init__" (.ref (s.heap.objs.size + 1)) [] [] _ PySem.W.oi_kind PySem.W.oi_split t2 (NwA.oi_args_any (.ref (s.heap.objs.size + 1)) [] []) ?_)
  rw [PySem.W.oi_run]
  exact wpAny_pure (And.intro rfl ⟨V.ref (s.heap.objs.size + 1), _, J, rfl, hq⟩)
theorem pe_makeO {C : Addr} (kp : PySem.W.keepIn X.K (.ref C) = true) (mk : PySem.W.makesIn X.K C = true) (ini : PySem.W.findIn X.K (.ref C) "__init__" = some (some (.builtin "object.__init__"))) (top : PySem.W.mroIn X.K C (.type "object") = some true) (hg : Gl X x) (hm : X.mg x = some (.ref C))
    (hdb : (x == ("__debug__" : Str)) = false) : PE X (.Call (.Name x p) [] [] pos) (fun σ H Q => ∀ x dx, H x = none → H dx = none → dx ≠ x → Q (.ref x) (upd (upd H dx (.own x)) x (.ins C dx []))) :=
  ⟨fun pins s σ H Q I h => wpAny_Call_Name_kw (ld_glob I hg hm (PySem.W.callWith_K0 I.kIn kp (run_makeO (s := s) mk ini top I h)) hdb)⟩
end
theorem lk_mem {α : Type} {x : Str} {v : α} : ∀ {l : List (Str × α)}, l.lookup x = some v → (x, v) ∈ l
  | (k, u) :: r, h => by
    rw [List.lookup_cons] at h
    cases hb : x == k with
    | true =>
      rw [hb] at h
      cases h
      have e : x = k := by simpa using hb
      rw [e]; exact List.mem_cons_self
    | false =>
      rw [hb] at h
      exact List.mem_cons_of_mem _ (lk_mem h)
theorem meth_mem {T : Tab} {c m key : Str} (h : T.meth c m = some key) : (c, m, key) ∈ T.mt := by
  unfold Tab.meth at h
  obtain ⟨p, h1, h2⟩ := Option.map_eq_some_iff.mp h
  have h3 := List.mem_of_find?_eq_some h1
  have h4 := List.find?_some h1
  obtain ⟨h5, h6⟩ := Bool.and_eq_true_iff.mp h4
  have e1 := of_decide_eq_true h5
  have e2 := of_decide_eq_true h6
  obtain ⟨a, b, d⟩ := p
  cases e1; cases e2; cases h2
  exact h3
theorem noat_mem {T : Tab} {c f : Str} (h : T.noat c f = true) : (c, f) ∈ T.na := by
  unfold Tab.noat at h
  obtain ⟨p, h1, h2⟩ := List.any_eq_true.mp h
  obtain ⟨h5, h6⟩ := Bool.and_eq_true_iff.mp h2
  have e1 := of_decide_eq_true h5
  have e2 := of_decide_eq_true h6
  obtain ⟨a, b⟩ := p
  cases e1; cases e2
  exact h1
/-! ### targets -/
theorem VR.parts {K : PySem.W.Frag} {cA : Str → Addr} {F : Hp} {β : List Addr} {S : Sto} {H : Hp} {v : Va} {x : V} {xs : List Va} (s : Sim K cA F β S H) (r : VR K F β v x) (h : partsOf S v = some xs) : ∃ a ys, x = .ref a ∧ VRs K F β xs ys ∧ (SqT K H a ys ∨ SqL K H a ys) := by
  cases v with
  | tup zs =>
    cases h
    obtain ⟨a, ys, rfl, t, q⟩ := r
    exact ⟨a, ys, rfl, q, .inl (SqT.mono s.sub t)⟩
  | lst zs =>
    cases h
    obtain ⟨a, ys, rfl, t, q⟩ := r
    exact ⟨a, ys, rfl, q, .inr (SqL.of (s.sub _ _ t))⟩
  | loc k =>
    simp only [partsOf] at h
    split at h
    · rename_i zs e
      cases h
      obtain ⟨a, ys, rfl, _, e2, q⟩ := loc_ok s e r
      exact ⟨a, ys, rfl, q, .inr (SqL.of e2)⟩
    · cases h
  | _ => cases h
section
variable (K : PySem.W.Frag) (cA : Str → Addr)
def liftG (is : List Nat) (w : Sto → Va → Env → Option Env) : TG := fun x σ H Q => ∃ F β Γ S v Γ', Sim K cA F β S H ∧ EnvR K F β Γ σ ∧ VR K F β v x ∧ w S v Γ = some Γ' ∧ ∀ σ', EnvR K F β Γ' σ' → σ'.length = σ.length → (∀ i, i ∉ is → σ'[i]? = σ[i]?) → Q σ' H
def liftGs (is : List Nat) (w : Sto → List Va → Env → Option Env) : TGs := fun x σ H Q => ∃ F β Γ S v Γ', Sim K cA F β S H ∧ EnvR K F β Γ σ ∧ VRs K F β v x ∧ w S v Γ = some Γ' ∧ ∀ σ', EnvR K F β Γ' σ' → σ'.length = σ.length → (∀ i, i ∉ is → σ'[i]? = σ[i]?) → Q σ' H
end
section
variable {c : Ctx} {cA : Str → Addr}
theorem asgn_cons {e : Expr} (h : noStar e = true) (es : List Expr) (env : PySem.Env) : assignEach (e :: es) env = (false, assign e env) :: assignEach es env := by
  cases e <;> first | rfl | cases h
theorem ckGs_len : ∀ (ts : Tgs) (es : List Expr) (env : PySem.Env), ckGs c ts es = true → (assignEach es env).length = es.length ∧ (assignEach es env).findIdx? (·.1) = none
  | .nil, es, env, h => by
    simp only [ckGs] at h
    split at h
    · exact ⟨rfl, rfl⟩
    · cases h
  | .cons t ts, es, env, h => by
    simp only [ckGs] at h
    split at h
    · obtain ⟨h, h3⟩ := ba h
      obtain ⟨h1, h2⟩ := ba h
      obtain ⟨i1, i2⟩ := ckGs_len ts _ env h3
      rw [asgn_cons h2]
      refine ⟨by simp [i1], ?_⟩
      rw [List.findIdx?_cons]
      simp [i2]
    · cases h
mutual
theorem sndG : ∀ (m : Tg) (X : Cx), X.N = c.N → X.N.Nodup → (∀ x, c.lc x = true → Loc X.env.scope x ∧ (X.fn x = true ∨ X.env.scope.names.lookup x = some .local)) → X.calm = true → ∀ (e : Expr), ckG c m e = true → PG X e (liftG X.K cA (tgS m) fun S v Γ => bindT S m v Γ)
  | .name i, X, hN, nd, hl, hc, e, h => by
    simp only [ckG] at h
    split at h
    · obtain ⟨h1, h2⟩ := ba h
      obtain ⟨l1, l2⟩ := hl _ h2
      refine (pg_name (i := i) nd (by rw [hN]; exact of_decide_eq_true h1) l1 l2).weak fun x σ H Q ⟨F, β, Γ, S, v, Γ', s, en, r, hb, q⟩ => ?_
      simp only [bindT] at hb
      cases hb
      refine q _ (en.set r) (List.length_set ..) fun j hj => ?_
      rw [List.getElem?_set_ne]
      intro e; subst e
      exact hj (by simp [tgS])
    · cases h
  | .tup ts, X, hN, nd, hl, hc, e, h => by
    simp only [ckG] at h
    split at h
    · rename_i es k p
      obtain ⟨z1, z2⟩ := ckGs_len ts _ X.env h
      have key := sndGs ts X hN nd hl hc _ h
      refine ((pg_tup (n := es.length) (k := k) (pos := p) hc key z1 z2).or (pg_lst (n := es.length) hc key z1 z2)).weak fun x σ H Q ⟨F, β, Γ, S, v, Γ', s, en, r, hb, q⟩ => ?_
      simp only [bindT] at hb
      split at hb
      · rename_i xs hp
        obtain ⟨a, ys, rfl, qq, hs⟩ := r.parts s hp
        have hlen : ys.length = es.length := by
          rw [← qq.len]; exact bindTs_len ts _ _ _ _ hb es h
        rcases hs with hs | hs
        · exact .inl ⟨a, ys, rfl, hs, hlen, F, β, Γ, S, xs, Γ', s, en, qq, hb, q⟩
        · exact .inr ⟨a, ys, rfl, hs, hlen, F, β, Γ, S, xs, Γ', s, en, qq, hb, q⟩
      · cases hb
    · cases h
theorem sndGs : ∀ (m : Tgs) (X : Cx), X.N = c.N → X.N.Nodup → (∀ x, c.lc x = true → Loc X.env.scope x ∧ (X.fn x = true ∨ X.env.scope.names.lookup x = some .local)) → X.calm = true → ∀ (e : List Expr), ckGs c m e = true → PGs X e (liftGs X.K cA (tgsS m) fun S v Γ => bindTs S m v Γ)
  | .nil, X, hN, nd, hl, hc, e, h => by
    simp only [ckGs] at h
    split at h
    · refine pgs_nil.weak fun x σ H Q ⟨F, β, Γ, S, v, Γ', s, en, r, hb, q⟩ => ?_
      cases v with
      | nil =>
        cases hb
        cases (show x = [] from r)
        exact ⟨rfl, q σ en rfl fun _ _ => rfl⟩
      | cons _ _ => cases hb
    · cases h
  | .cons t ts, X, hN, nd, hl, hc, e, h => by
    simp only [ckGs] at h
    split at h
    · obtain ⟨h, h3⟩ := ba h
      obtain ⟨h1, h2⟩ := ba h
      refine (pgs_cons (sndG t X hN nd hl hc _ h1) (sndGs ts X hN nd hl hc _ h3) (by rw [asgn_cons h2]; rfl)).weak fun x σ H Q ⟨F, β, Γ, S, v, Γ', s, en, r, hb, q⟩ => ?_
      cases v with
      | nil => cases hb
      | cons v vs =>
        obtain ⟨y, ys, rfl, r1, r2⟩ := r
        simp only [bindTs] at hb
        split at hb
        · rename_i Γ1 hb1
          refine ⟨y, ys, rfl, F, β, Γ, S, v, Γ1, s, en, r1, hb1, fun σ1 en1 l1 o1 => ⟨F, β, Γ1, S, vs, Γ', s, en1, r2, hb, fun σ2 en2 l2 o2 => ?_⟩⟩
          refine q σ2 en2 (l2.trans l1) fun i hi => ?_
          simp only [tgsS, List.mem_append, not_or] at hi
          rw [o2 i hi.2, o1 i hi.1]
        · cases hb
    · cases h
theorem bindTs_len : ∀ (ts : Tgs) (S : Sto) (xs : List Va) (Γ Γ' : Env), bindTs S ts xs Γ = some Γ' → ∀ es, ckGs c ts es = true → xs.length = es.length
  | .nil, S, [], Γ, Γ', _, es, h => by
    simp only [ckGs] at h
    split at h
    · rfl
    · cases h
  | .nil, S, _ :: _, Γ, Γ', hb, es, h => by cases hb
  | .cons t ts, S, [], Γ, Γ', hb, es, h => by cases hb
  | .cons t ts, S, x :: xs, Γ, Γ', hb, es, h => by
    simp only [ckGs] at h
    split at h
    · obtain ⟨h, h3⟩ := ba h
      simp only [bindTs] at hb
      split at hb
      · simp [bindTs_len ts S xs _ _ hb _ h3]
      · cases hb
    · cases h
end
end
theorem wipe_ext {σ σ2 : St} {vs is : List Nat} (h1 : ∀ i, i ∉ is → σ2[i]? = (wipe σ vs)[i]?) (h2 : σ2.length = (wipe σ vs).length) (h3 : ∀ i ∈ is, i ∈ vs) : wipe σ2 vs = wipe σ vs := by
  have key : ∀ (σ : St) (vs : List Nat) (i : Nat), i ∈ vs → (wipe σ vs)[i]? = if i < σ.length then some none else none := by
    intro σ vs
    induction vs with
    | nil => intro i h; cases h
    | cons v vs ih =>
      intro i h
      unfold wipe
      by_cases e : v = i
      · subst e
        by_cases hl : v < σ.length
        · rw [List.getElem?_set_self (by rw [wipe_length]; exact hl), if_pos hl]
        · rw [List.getElem?_eq_none (by rw [List.length_set, wipe_length]; omega), if_neg hl]
      · rw [List.getElem?_set_ne e]
        rcases List.mem_cons.mp h with z | z
        · exact absurd z.symm e
        · exact ih i z
  rw [wipe_length] at h2
  apply List.ext_getElem?
  intro i
  by_cases hi : i ∈ vs
  · rw [key σ2 vs i hi, key σ vs i hi, h2]
  · rw [wipe_out hi, h1 i fun z => hi (h3 i z)]
theorem wipe_wipe {σ σ2 : St} {own is : List Nat} (h1 : ∀ i, i ∉ is → σ2[i]? = (L2.wipe σ own)[i]?) (h2 : σ2.length = (L2.wipe σ own).length) (h3 : ∀ i ∈ is, i ∈ own) : L2.wipe σ2 own = L2.wipe σ own := wipe_ext h1 h2 h3
theorem EnvR.wipe {K : PySem.W.Frag} {F : Hp} {β : List Addr} {Γ : Env} {σ : St} (h : EnvR K F β Γ σ) : ∀ vs : List Nat, EnvR K F β (wipeA Γ vs) (L2.wipe σ vs)
  | [] => h
  | v :: vs => (EnvR.wipe h vs).wipe1
/-! ### walks -/
section
variable {K : PySem.W.Frag} {cA : Str → Addr} {F : Hp} {β : List Addr} {xs : List Va} {J : L2.It} {GH : Hp → Prop} {G : Sto → Prop}
theorem itok_w {n : Nat} (hn : n = xs.length) (h : ∀ F' β' S H, Ext F β F' β' → Sim K cA F' β' S H → G S → ∃ GH Y, Walk J n GH Y ∧ GH H ∧ ∀ i x H', i < n → Y i H x H' → ∃ F2 v, xs[i]? = some v ∧ Ext F' β' F2 β' ∧ Sim K cA F2 β' S H' ∧ VR K F2 β' v x) : ItOk K cA F β J xs G where
  go := fun F' β' S H i e s g hi => let ⟨_, _, w, q, _⟩ := h F' β' S H e s g; w.goes i H (by omega) q
  stop := fun F' β' S H e s g => let ⟨_, _, w, q, _⟩ := h F' β' S H e s g; by rw [← hn]; exact w.stops H q
  yld := fun F' β' S H i x H' e s g hi y => let ⟨_, _, w, q, z⟩ := h F' β' S H e s g; z i x H' (by omega) (w.yields i H x H' (by omega) q y)
theorem pair_yl {a b : Nat → Option V} {S : Sto} {H H' : Hp} {i : Nat} {x : V} (s : Sim K cA F β S H) (y : YPair a b i H x H') (hf : ∀ p q, a i = some p → b i = some q → ∃ v u, xs[i]? = some (.tup [v, u]) ∧ VR K F β v p ∧ VR K F β u q) :
    ∃ F2 v, xs[i]? = some v ∧ Ext F β F2 β ∧ Sim K cA F2 β S H' ∧ VR K F2 β v x := by
  obtain ⟨T, p, q, rfl, hT, rfl, h1, h2⟩ := y
  obtain ⟨v, u, h3, r1, r2⟩ := hf p q h1 h2
  obtain ⟨s2, sb⟩ := s.lay hT (.tup [p, q])
  have e2 : Ext F β (upd F T (.tup [p, q])) β := ⟨sb, List.prefix_refl _⟩
  exact ⟨_, .tup [v, u], h3, e2, s2, T, [p, q], rfl, SqT.of upd_same, p, [q], rfl, r1.ext e2, q, [], rfl, r2.ext e2, rfl⟩
theorem VRs.at {ys : List V} {i : Nat} (q : VRs K F β xs ys) {x : V} (h : ys[i]? = some x) : ∃ v, xs[i]? = some v ∧ VR K F β v x := by
  have hi : i < xs.length := by rw [q.len]; exact lt_of_get h
  obtain ⟨z, h1, h2⟩ := q.get (i := i) (v := xs[i]) (by simp [hi])
  rw [h] at h1
  cases h1
  exact ⟨xs[i], by simp [hi], h2⟩
/-- where a list stands, while G -/
def LAt (K : PySem.W.Frag) (cA : Str → Addr) (F : Hp) (β : List Addr) (a : Addr) (xs : List Va) (G : Sto → Prop) : Prop := ∀ F' β' S H, Ext F β F' β' → Sim K cA F' β' S H → G S → ∃ ys, SqL K H a ys ∧ VRs K F' β' xs ys
theorem itok_l {a : Addr} (h : LAt K cA F β a xs G) (ys : List V) (hy : VRs K F β xs ys) : ItOk K cA F β (Itl K a) xs G := by
  refine itok_w (n := ys.length) hy.len.symm fun F' β' S H e s g => ?_
  obtain ⟨zs, q, r⟩ := h F' β' S H e s g
  have hl : ys.length = zs.length := by rw [← hy.len, r.len]
  rw [hl]
  refine ⟨_, _, walk_list (xs := zs), q, fun i x H' hi ⟨e1, e2⟩ => ?_⟩
  subst e1
  obtain ⟨v, h1, h2⟩ := r.at e2
  exact ⟨F', v, h1, Ext.refl _ _, s, h2⟩
theorem itok_t {a : Addr} {ys : List V} (h : SqT K F a ys) (hy : VRs K F β xs ys) : ItOk K cA F β (Itt K a) xs fun _ => True := by
  refine itok_w (n := ys.length) hy.len.symm fun F' β' S H e s g => ?_
  refine ⟨_, _, walk_tup (xs := ys), SqT.mono s.sub (SqT.mono e.sub h), fun i x H' hi ⟨e1, e2⟩ => ?_⟩
  subst e1
  obtain ⟨v, h1, h2⟩ := (hy.ext e).at e2
  exact ⟨F', v, h1, Ext.refl _ _, s, h2⟩
theorem itok_s {z : Str} : ItOk K cA F β (Its z) (z.cps.toList.map fun c => Va.str ⟨#[c]⟩) fun _ => True := by
  refine itok_w (n := z.cps.size) (by simp) fun F' β' S H e s g => ?_
  refine ⟨_, _, walk_str, trivial, fun i x H' hi ⟨e1, c, e2, e3⟩ => ?_⟩
  subst e1 e3
  refine ⟨F', .str ⟨#[c]⟩, ?_, Ext.refl _ _, s, rfl⟩
  rw [List.getElem?_map, Array.getElem?_toList, e2]; rfl
theorem itok_r {lo : Int} {n : Nat} : ItOk K cA F β (Itr lo n) (rangeV lo n) fun _ => True := by
  refine itok_w (n := n) (by simp [rangeV]) fun F' β' S H e s g => ?_
  refine ⟨_, _, walk_range, trivial, fun i x H' hi ⟨e1, e2⟩ => ?_⟩
  subst e1 e2
  refine ⟨F', .int (lo + i), ?_, Ext.refl _ _, s, rfl⟩
  unfold rangeV
  rw [List.getElem?_map, List.getElem?_range hi]; rfl
theorem itok_d {lo : Int} {n : Nat} : ItOk K cA F β (Itc lo (-1) n) (rangeDV lo n) fun _ => True := by
  refine itok_w (n := n) (by simp [rangeDV]) fun F' β' S H e s g => ?_
  refine ⟨_, _, walk_rangeC, trivial, fun i x H' hi ⟨e1, e2⟩ => ?_⟩
  subst e1 e2
  refine ⟨F', .int (lo + (i : Nat) * (-1)), ?_, Ext.refl _ _, s, rfl⟩
  unfold rangeDV
  rw [List.getElem?_map, List.getElem?_range hi]
  show some (Va.int (lo - i)) = some (Va.int (lo + (i : Nat) * (-1)))
  rw [show lo - (i : Int) = lo + (i : Nat) * (-1) by omega]
theorem itok_k {a : Addr} {od : Obj} {kvs : List (Key × Va)} {ys : List (Key × V)} (h : F a = some (.frz od (.dK ys))) (hy : VRk K F β kvs ys) : ItOk K cA F β (Itk a od ys) (kvs.map fun kv => keyA kv.1) fun _ => True := by
  refine itok_w (n := ys.length) (by rw [List.length_map, hy.len]) fun F' β' S H e s g => ?_
  refine ⟨_, _, walk_keys (kvs := ys), s.sub _ _ (e.sub _ _ h), fun i x H' hi ⟨e1, k, v, e2, e3⟩ => ?_⟩
  subst e1
  obtain ⟨w, h1, h2⟩ := (keysV_ok (hy.ext e)).at (i := i) (x := kV k) (by rw [List.getElem?_map, e2]; rfl)
  exact ⟨F', w, h1, Ext.refl _ _, s, e3 ▸ h2⟩
theorem VRk.pair {K : PySem.W.Frag} {F : Hp} {β : List Addr} : ∀ {kvs : List (Key × Va)} {ys : List (Key × V)} {i : Nat} {kv : Key × V}, VRk K F β kvs ys → ys[i]? = some kv → ∃ v, kvs[i]? = some (kv.1, v) ∧ VR K F β v kv.2
  | [], _, i, kv, h, e => by cases (show _ = [] from h); simp at e
  | (k, v) :: r, _, 0, kv, ⟨y, t, e0, q, qs⟩, e => by subst e0; simp at e; subst e; exact ⟨v, rfl, q⟩
  | (k, v) :: r, _, i + 1, kv, ⟨y, t, e0, q, qs⟩, e => by
    subst e0
    obtain ⟨w, h1, h2⟩ := VRk.pair (i := i) qs (by simpa using e)
    exact ⟨w, by simpa using h1, h2⟩
theorem itok_i {a : Addr} {od : Obj} {kvs : List (Key × Va)} {ys : List (Key × V)} (h : F a = some (.frz od (.dK ys))) (hy : VRk K F β kvs ys) : ItOk K cA F β (Iti a od ys) (kvs.map fun kv => .tup [keyA kv.1, kv.2]) fun _ => True := by
  refine itok_w (n := ys.length) (by rw [List.length_map, hy.len]) fun F' β' S H e s g => ?_
  refine ⟨_, _, walk_items (kvs := ys), s.sub _ _ (e.sub _ _ h), fun i x H' hi y => pair_yl s y fun p q hp hq => ?_⟩
  obtain ⟨kv, hkv, rfl⟩ := Option.map_eq_some_iff.mp hp
  obtain ⟨kv', hkv', rfl⟩ := Option.map_eq_some_iff.mp hq
  rw [hkv] at hkv'
  cases hkv'
  obtain ⟨v, h1, h2⟩ := (hy.ext e).pair hkv
  refine ⟨keyA kv.1, v, by rw [List.getElem?_map, h1]; rfl, keyA_ok kv.1, h2⟩
theorem itok_v {a : Addr} (h : LAt K cA F β a xs G) (ys : List V) (hy : VRs K F β xs ys) : ItOk K cA F β (Itv K a ys.length) xs.reverse G := by
  refine itok_w (n := ys.length) (by rw [List.length_reverse, hy.len]) fun F' β' S H e s g => ?_
  obtain ⟨zs, q, r⟩ := h F' β' S H e s g
  have hl : ys.length = zs.length := by rw [← hy.len, r.len]
  rw [hl]
  refine ⟨_, _, walk_rev (xs := zs), q, fun i x H' hi ⟨e1, e2⟩ => ?_⟩
  subst e1
  obtain ⟨v, h1, h2⟩ := r.at e2
  refine ⟨F', v, ?_, Ext.refl _ _, s, h2⟩
  rw [List.getElem?_reverse (by rw [r.len]; exact hi), r.len]; exact h1
theorem enumV_get : ∀ (xs : List Va) (n i : Nat) (v : Va), xs[i]? = some v → (enumV n xs)[i]? = some (.tup [.int ((n + i : Nat) : Int), v])
  | [], _, _, _, h => by simp at h
  | x :: xs, n, 0, v, h => by
    have e : x = v := by simpa using h
    subst e
    rfl
  | x :: xs, n, i + 1, v, h => by
    have := enumV_get xs (n + 1) i v (by simpa using h)
    simp only [enumV, List.getElem?_cons_succ]
    rw [this]
    congr 5
    omega
theorem enumV_len : ∀ (xs : List Va) (n : Nat), (enumV n xs).length = xs.length
  | [], _ => rfl
  | x :: xs, n => by simp [enumV, enumV_len xs]
theorem itok_e {a : Addr} (h : LAt K cA F β a xs G) (ys : List V) (hy : VRs K F β xs ys) : ItOk K cA F β (Ite K a) (enumV 0 xs) G := by
  refine itok_w (n := ys.length) (by rw [enumV_len, hy.len]) fun F' β' S H e s g => ?_
  obtain ⟨zs, q, r⟩ := h F' β' S H e s g
  have hl : ys.length = zs.length := by rw [← hy.len, r.len]
  rw [hl]
  refine ⟨_, _, walk_enum (xs := zs), q, fun i x H' hi y => pair_yl s y fun p q hp hq => ?_⟩
  cases hp
  obtain ⟨v, h1, h2⟩ := r.at hq
  refine ⟨.int (i : Nat), v, ?_, rfl, h2⟩
  rw [enumV_get xs 0 i v h1, Nat.zero_add]
theorem zipV_get : ∀ (xs ys : List Va) (i : Nat) (v u : Va), xs[i]? = some v → ys[i]? = some u → (zipV xs ys)[i]? = some (.tup [v, u])
  | [], _, _, _, _, h, _ => by simp at h
  | _ :: _, [], _, _, _, _, h => by simp at h
  | x :: xs, y :: ys, 0, v, u, h, h' => by
    have e : x = v := by simpa using h
    have e' : y = u := by simpa using h'
    subst e e'
    rfl
  | x :: xs, y :: ys, i + 1, v, u, h, h' => by
    simp only [zipV, List.getElem?_cons_succ]
    exact zipV_get xs ys i v u (by simpa using h) (by simpa using h')
theorem zipV_len : ∀ (xs ys : List Va), (zipV xs ys).length = min xs.length ys.length
  | [], ys => by simp [zipV]
  | _ :: _, [] => by simp [zipV]
  | x :: xs, y :: ys => by simp [zipV, zipV_len xs ys]
theorem itok_z {a b : Addr} {us : List Va} {G' : Sto → Prop} (h : LAt K cA F β a xs G) (ys : List V) (hy : VRs K F β xs ys) (h' : LAt K cA F β b us G') (ys' : List V) (hy' : VRs K F β us ys') : ItOk K cA F β (Itz K a b) (zipV xs us) fun S => G S ∧ G' S := by
  refine itok_w (n := min ys.length ys'.length) (by rw [zipV_len, hy.len, hy'.len]) fun F' β' S H e s ⟨g, g'⟩ => ?_
  obtain ⟨zs, q, r⟩ := h F' β' S H e s g
  obtain ⟨ws, q', r'⟩ := h' F' β' S H e s g'
  have hl : ys.length = zs.length := by rw [← hy.len, r.len]
  have hl' : ys'.length = ws.length := by rw [← hy'.len, r'.len]
  rw [hl, hl']
  refine ⟨_, _, walk_zip (xs := zs) (ys := ws) rfl, ⟨q, q'⟩, fun i x H' hi y => pair_yl s y fun p q hp hq => ?_⟩
  obtain ⟨v, h1, h2⟩ := r.at hp
  obtain ⟨u, h3, h4⟩ := r'.at hq
  exact ⟨v, u, zipV_get _ _ _ _ _ h1 h3, h2, h4⟩
theorem ItOk.ext {F' : Hp} {β' : List Addr} (h : ItOk K cA F β J xs G) (e : Ext F β F' β') : ItOk K cA F' β' J xs G :=
  ⟨fun F2 β2 S H i e2 => h.go F2 β2 S H i (e.trans e2), fun F2 β2 S H e2 => h.stop F2 β2 S H (e.trans e2), fun F2 β2 S H i x H' e2 => h.yld F2 β2 S H i x H' (e.trans e2)⟩
theorem LAt.ext {F' : Hp} {β' : List Addr} {a : Addr} (h : LAt K cA F β a xs G) (e : Ext F β F' β') : LAt K cA F' β' a xs G := fun F2 β2 S H e2 => h F2 β2 S H (e.trans e2)
/-- what a list to be walked is -/
theorem wLst_ok {S : Sto} {H : Hp} {v : Va} {x : V} {P : PI_} (s : Sim K cA F β S H) (r : VR K F β v x) (h : wLst v S P) :
    ∃ a ys xs G, x = .ref a ∧ SqL K H a ys ∧ VRs K F β xs ys ∧ LAt K cA F β a xs G ∧ P xs G S := by
  unfold wLst at h
  split at h <;> first | exact h.elim | skip
  · obtain ⟨a, ys, rfl, t, q⟩ := r
    exact ⟨a, ys, _, _, rfl, SqL.of (s.sub _ _ t), q, fun F' β' S H e s _ => ⟨ys, SqL.of (s.sub _ _ (e.sub _ _ t)), q.ext e⟩, h⟩
  · obtain ⟨a, rfl, t⟩ := r
    exact ⟨a, _, _, _, rfl, SqL.mono s.sub t, VRs.ints.mpr rfl, fun F' β' S H e s _ => ⟨_, SqL.mono s.sub (SqL.mono e.sub t), VRs.ints.mpr rfl⟩, h⟩
  · obtain ⟨zs, h0, h⟩ := h
    obtain ⟨a, ys, rfl, t, e2, q⟩ := loc_ok s h0 r
    refine ⟨a, ys, zs, _, rfl, SqL.of e2, q, fun F' β' S' H' e s' g => ?_, h⟩
    obtain ⟨a', ys', e3, t', e4, q'⟩ := loc_ok s' g (x := .ref a) ⟨a, rfl, pre_get e.pre t⟩
    cases e3
    exact ⟨ys', SqL.of e4, q'⟩
theorem itok_et {a : Addr} {ys : List V} (h : SqT K F a ys) (hy : VRs K F β xs ys) : ItOk K cA F β (Itet K a) (enumV 0 xs) fun _ => True := by
  refine itok_w (n := ys.length) (by rw [enumV_len, hy.len]) fun F' β' S H e s g => ?_
  refine ⟨_, _, walk_enumT (xs := ys), SqT.mono s.sub (SqT.mono e.sub h), fun i x H' hi y => pair_yl s y fun p q hp hq => ?_⟩
  cases hp
  obtain ⟨v, h1, h2⟩ := (hy.ext e).at hq
  refine ⟨.int (i : Nat), v, ?_, rfl, h2⟩
  rw [enumV_get xs 0 i v h1, Nat.zero_add]
/-- what is walked by enumerate -/
theorem wEn_ok {S : Sto} {H : Hp} {v : Va} {x : V} {P : PI_} (s : Sim K cA F β S H) (r : VR K F β v x) (h : wEn v S P) :
    ∃ a ys xs G, x = .ref a ∧ ((SqL K H a ys ∧ ItOk K cA F β (Ite K a) (enumV 0 xs) G) ∨ (SqT K H a ys ∧ ItOk K cA F β (Itet K a) (enumV 0 xs) G)) ∧ P xs G S := by
  have key : wLst v S P → ∃ a ys xs G, x = .ref a ∧ ((SqL K H a ys ∧ ItOk K cA F β (Ite K a) (enumV 0 xs) G) ∨ (SqT K H a ys ∧ ItOk K cA F β (Itet K a) (enumV 0 xs) G)) ∧ P xs G S := fun h => by
    obtain ⟨a, ys, xs, G, e, q, r, l, p⟩ := wLst_ok s r h
    exact ⟨a, ys, xs, G, e, .inl ⟨q, itok_e l ys r⟩, p⟩
  cases v with
  | tup xs =>
    obtain ⟨a, ys, rfl, t, q⟩ := r
    exact ⟨a, ys, xs, _, rfl, .inr ⟨SqT.mono s.sub t, itok_et t q⟩, h⟩
  | _ => exact key h
/-- what is walked by itself -/
theorem wSeq_ok {S : Sto} {H : Hp} {v : Va} {x : V} {P : PI_} (s : Sim K cA F β S H) (r : VR K F β v x) (h : wSeq v S P) :
    ∃ xs G, ((∃ a ys, x = .ref a ∧ SqL K H a ys ∧ ItOk K cA F β (Itl K a) xs G) ∨ (∃ a ys, x = .ref a ∧ SqT K H a ys ∧ ItOk K cA F β (Itt K a) xs G) ∨ ∃ z, x = .str z ∧ ItOk K cA F β (Its z) xs G) ∧ P xs G S := by
  have key : wLst v S P → ∃ xs G, ((∃ a ys, x = .ref a ∧ SqL K H a ys ∧ ItOk K cA F β (Itl K a) xs G) ∨ (∃ a ys, x = .ref a ∧ SqT K H a ys ∧ ItOk K cA F β (Itt K a) xs G) ∨ ∃ z, x = .str z ∧ ItOk K cA F β (Its z) xs G) ∧ P xs G S := fun h => by
    obtain ⟨a, ys, xs, G, e, q, r, l, p⟩ := wLst_ok s r h
    exact ⟨xs, G, .inl ⟨a, ys, e, q, itok_l l ys r⟩, p⟩
  cases v with
  | lst xs => exact key h
  | scr ns => exact key h
  | loc k => exact key h
  | tup xs =>
    obtain ⟨a, ys, rfl, t, q⟩ := r
    exact ⟨xs, _, .inr (.inl ⟨a, ys, rfl, SqT.mono s.sub t, itok_t t q⟩), h⟩
  | str z =>
    cases r
    exact ⟨_, _, .inr (.inr ⟨z, rfl, itok_s⟩), h⟩
  | _ => exact h.elim
end
theorem pi_seqA {X : Cx} {tg e : Expr} {te : TE} (he : PE X e te) : PI X tg e (fun σ H R => te σ H fun x H1 => (∃ a ys, x = .ref a ∧ SqL X.K H1 a ys ∧ R (Itl X.K a) H1) ∨ (∃ a ys, x = .ref a ∧ SqT X.K H1 a ys ∧ R (Itt X.K a) H1) ∨ ∃ z, x = .str z ∧ R (Its z) H1) := by
  refine ⟨fun pins s σ H R I h => thn (he.run pins s σ H _ I h) fun v s1 ⟨x, H1, I1, r1, q1⟩ => ?_⟩
  rcases q1 with ⟨a, ys, rfl, hq, q⟩ | ⟨a, ys, rfl, hq, q⟩ | ⟨z, rfl, q⟩
  · cases r1
    obtain ⟨its, rv, p, hz⟩ := I1.list hq
    exact wpAny_pyIter_list p.isList (pi_one (tk := s1.toks) I1 _ (turn_list a _) ⟨_, Heap.get?_push_size _ rfl, rfl, rfl⟩ q)
  · cases r1
    obtain ⟨its, rv, p, hz⟩ := I1.tuple hq
    exact wpAny_pyIter_tuple (show s1.heap.IsTuple a its.toArray from p) (pi_one (tk := s1.toks) I1 _ (turn_tuple a _) ⟨_, Heap.get?_push_size _ rfl, rfl, rfl⟩ q)
  · obtain ⟨t, rfl⟩ := r1
    cases hz : z.cps.all (· < 128)
    · exact wpAny_pyIter_wide hz (pi_one (tk := s1.toks) I1 _ (turn_str _ z t "str_iterator" (.inr rfl)) ⟨_, Heap.get?_push_size _ rfl, rfl, rfl⟩ q)
    · exact wpAny_pyIter_ascii hz (pi_one (tk := s1.toks) I1 _ (turn_str _ z t "str_ascii_iterator" (.inl rfl)) ⟨_, Heap.get?_push_size _ rfl, rfl, rfl⟩ q)
theorem any_star {c : Ctx} : ∀ (ms : Exs) (es : List Expr) (pos : Pos) (env : PySem.Env), ckL c ms es = true → (backTo pos (starEach es env)).any (·.1) = false
  | .nil, es, pos, env, h => by
    simp only [ckL] at h
    split at h
    · rfl
    · cases h
  | .cons m ms, es, pos, env, h => by
    simp only [ckL] at h
    split at h
    · obtain ⟨h, h3⟩ := ba h
      obtain ⟨h1, h2⟩ := ba h
      rw [star_cons h2]
      have := any_star ms _ pos env h3
      simpa [backTo] using this
    · cases h

theorem ckL_first {c : Ctx} (es : Exs) (e1 : Expr) (es' : List Expr) (pos : Pos) (env : PySem.Env) (h3 : ckL c es (e1 :: es') = true) : starEach (e1 :: es') env = (false, eval e1 env) :: starEach es' env ∧ (backTo pos (starEach es' env)).any (·.1) = false := by
  cases es with
  | nil => simp only [ckL] at h3; cases h3
  | cons m ms =>
    simp only [ckL] at h3
    obtain ⟨h3, h5⟩ := ba h3
    exact ⟨star_cons (ba h3).2 _ _, any_star ms _ _ _ h5⟩
theorem ckI_fold {c : Ctx} {m : It} {tg e : Expr} (h : ckI c m tg e = true) (env : PySem.Env) : ∀ x, foldedSetIterable e env x = pure x := by
  have key : noSet e = true → ∀ x, foldedSetIterable e env x = pure x := fun h x => by
    cases e <;> first | rfl | cases h
  cases m
  case seq m =>
    simp only [ckI] at h
    exact key (ba h).2
  case keys m =>
    simp only [ckI] at h
    exact key (ba h).2
  all_goals
    simp only [ckI] at h
    split at h
    · intro x; rfl
    · cases h
theorem ownA_ix (N : List Str) (own : List Nat) : (ownA N own).map (·.2) = own := by
  unfold ownA
  rw [List.map_map]
  exact List.map_id' own
theorem lam1_ok {z : Str} {params : Arguments} {sc : Scope} (h : lam1B z params sc = true) : (∃ ap, params = ⟨[], [⟨z, none, ap⟩], none, [], [], none, []⟩) ∧ LamS1 z sc ∧ (z == ("__debug__" : Str)) = false := by
  unfold lam1B at h
  obtain ⟨h, h6⟩ := ba h
  obtain ⟨h, h5⟩ := ba h
  obtain ⟨h, h4⟩ := ba h
  obtain ⟨h, h3⟩ := ba h
  obtain ⟨h1, h2⟩ := ba h
  have h5 := of_decide_eq_true h5
  refine ⟨?_, ⟨of_decide_eq_true h2, by simpa using h3, by simpa using h4, fun y hy => ?_, ?_⟩, by simpa using h6⟩
  · split at h1
    · have e := of_decide_eq_true h1
      subst e
      exact ⟨_, rfl⟩
    · cases h1
  · rw [h5] at hy
    rw [List.mem_singleton.mp hy]
  · rw [h5]
    simp [List.lookup]
section
variable {K : PySem.W.Frag} {cA : Str → Addr} {F : Hp} {β : List Addr} {S : Sto} {H : Hp}
theorem Sim.tabS (s : Sim K cA F β S H) {i : Nat} {q : Str} (h : S[i]? = some (.tab q)) : LamX.TabS H (cA q) q := by
  obtain ⟨a, _, _, e, ps, e1, t, r⟩ := s.at h
  subst e
  exact ⟨ps, e1, t, fun p cv z => let ⟨c, e2, e3⟩ := r p cv z; ⟨c, e2, s.sub _ _ e3⟩⟩
theorem Sim.tabUp (s : Sim K cA F β S H) {i : Nat} {q : Str} (h : S[i]? = some (.tab q)) {H1 : Hp} (t : TabUp (cA q) q H H1) : ∃ F1, Ext F β F1 β ∧ Sim K cA F1 β S H1 := by
  rcases t with rfl | ⟨ps, more, c', hP, nc, rfl, ht, ha⟩
  · exact ⟨F, Ext.refl _ _, s⟩
  · obtain ⟨a, ea, fa, e, ps', e1, _, r⟩ := s.at h
    subst e
    rw [hP] at e1
    cases e1
    have ne : cA q ≠ c' := ne_of_none hP nc
    obtain ⟨s1, sub⟩ := s.lay nc (LamX.CodeO c' q)
    have s2 := s1.put (o := .tab q) (u := .tbl (ps ++ more)) (lt_of_get h) ea ((upd_ne ne).trans fa) ⟨rfl, _, upd_same, ht, fun p cv z => ?_⟩
    · refine ⟨_, ⟨sub, List.prefix_refl _⟩, ?_⟩
      have eS : S.set i (.tab q) = S := by
        apply List.ext_getElem?
        intro j
        by_cases hj : i = j
        · subst hj
          rw [List.getElem?_set_self (lt_of_get h), h]
        · rw [List.getElem?_set_ne hj]
      have eH : upd (upd H c' (LamX.CodeO c' q)) (cA q) (.tbl (ps ++ more)) = upd (upd H (cA q) (.tbl (ps ++ more))) c' (LamX.CodeO c' q) := by
        funext b
        unfold upd
        by_cases h1 : b = cA q
        · rw [if_pos h1, if_neg (fun z => ne (h1 ▸ z)), if_pos h1]
        · rw [if_neg h1]
          by_cases h2 : b = c'
          · rw [if_pos h2, if_pos h2]
          · rw [if_neg h2, if_neg h2, if_neg h1]
      rw [eS, eH] at s2
      exact s2
    · rcases ha p cv z with z | z
      · obtain ⟨c, e2, e3⟩ := r p cv z
        exact ⟨c, e2, sub _ _ e3⟩
      · exact ⟨c', z, upd_same⟩
theorem trip_of : ∀ {bs : List (Va × PyData)} {ys : List V}, VRs K F β (bs.map (·.1)) ys → ∃ cs : List ((Va × V) × PyData), bs = cs.map (fun c => (c.1.1, c.2)) ∧ ys = cs.map (·.1.2) ∧ ∀ c ∈ cs, VR K F β c.1.1 c.1.2
  | [], _, h => ⟨[], rfl, h, fun _ z => by cases z⟩
  | b :: bs, _, ⟨y, r, e, q, qs⟩ => by
    obtain ⟨cs, e1, e2, h⟩ := trip_of qs
    exact ⟨((b.1, y), b.2) :: cs, by rw [e1]; rfl, by rw [e, e2]; rfl, fun c hc => by
      rcases List.mem_cons.mp hc with rfl | hc
      · exact q
      · exact h c hc⟩
theorem trip_to : ∀ {cs : List ((Va × V) × PyData)}, (∀ c ∈ cs, VR K F β c.1.1 c.1.2) → VRs K F β (cs.map ((·.1) ∘ fun c => (c.1.1, c.2))) (cs.map ((·.1) ∘ fun c => (c.1.2, c.2)))
  | [], _ => rfl
  | c :: cs, h => ⟨c.1.2, _, rfl, h c (List.mem_cons_self ..), trip_to fun c hc => h c (List.mem_cons_of_mem _ hc)⟩
theorem Sim.tabUpC (s : Sim K cA F β S H) {i : Nat} {q : Str} (h : S[i]? = some (.tab q)) {c' : Addr} {H1 : Hp} (t : TabUpC (cA q) q c' H H1) : ∃ F1, Ext F β F1 β ∧ Sim K cA F1 β S H1 ∧ F1 c' = some (LamX.CodeO c' q) := by
  rcases t with ⟨rfl, ps, pos, hP, hc⟩ | ⟨ps, more, hP, nc, rfl, ht, ha⟩
  · obtain ⟨a, ea, fa, e, ps', e1, _, r⟩ := s.at h
    subst e
    rw [hP] at e1
    cases e1
    obtain ⟨c2, e2, e3⟩ := r pos _ hc
    cases e2
    exact ⟨F, Ext.refl _ _, s, e3⟩
  · obtain ⟨a, ea, fa, e, ps', e1, _, r⟩ := s.at h
    subst e
    rw [hP] at e1
    cases e1
    have ne : cA q ≠ c' := ne_of_none hP nc
    obtain ⟨s1, sub⟩ := s.lay nc (LamX.CodeO c' q)
    have s2 := s1.put (o := .tab q) (u := .tbl (ps ++ more)) (lt_of_get h) ea ((upd_ne ne).trans fa) ⟨rfl, _, upd_same, ht, fun p cv z => ?_⟩
    · refine ⟨_, ⟨sub, List.prefix_refl _⟩, ?_, upd_same⟩
      have eS : S.set i (.tab q) = S := by
        apply List.ext_getElem?
        intro j
        by_cases hj : i = j
        · subst hj
          rw [List.getElem?_set_self (lt_of_get h), h]
        · rw [List.getElem?_set_ne hj]
      have eH : upd (upd H c' (LamX.CodeO c' q)) (cA q) (.tbl (ps ++ more)) = upd (upd H (cA q) (.tbl (ps ++ more))) c' (LamX.CodeO c' q) := by
        funext b
        unfold upd
        by_cases h1 : b = cA q
        · rw [if_pos h1, if_neg (fun z => ne (h1 ▸ z)), if_pos h1]
        · rw [if_neg h1]
          by_cases h2 : b = c'
          · rw [if_pos h2, if_pos h2]
          · rw [if_neg h2, if_neg h2, if_neg h1]
      rw [eS, eH] at s2
      exact s2
    · rcases ha p cv z with z | z
      · obtain ⟨c, e2, e3⟩ := r p cv z
        exact ⟨c, e2, sub _ _ e3⟩
      · exact ⟨c', z, upd_same⟩
end
theorem Gd.u65 {c : Ctx} {cA : Str → Addr} {T : Tab} {k : Nat} {cur : Option (Addr × Str)} {Wx : WX} {X : Cx} (g : Gd c cA T k cur Wx X) : X.A.units + 65 < cLine := by
  exact g.un
theorem xk_mem {T : Tab} {k : Nat} {cur : Option (Addr × Str)} {c x : Str} {b : Bool} (h : (orcE T k cur).xk c x = some b) : (c, x, b) ∈ T.xk := by
  have h : T.xkf c x = some b := h
  unfold Tab.xkf at h
  cases hf : T.xk.find? fun p => decide (p.1 = c) && decide (p.2.1 = x) with
  | none => rw [hf] at h; cases h
  | some p =>
    rw [hf] at h
    cases h
    have h1 := List.find?_some hf
    obtain ⟨h2, h3⟩ := ba h1
    have h2 := of_decide_eq_true h2
    have h3 := of_decide_eq_true h3
    subst h2 h3
    exact List.mem_of_find?_eq_some hf
/-- isinstance(e, c), e the exception that is handled -/
def rIsX (K : PySem.W.Frag) (cA : Str → Addr) (cur : Option (Addr × Str)) : List V → Hp → VK → Prop := fun xs H Q => ∃ ad c', cur = some (ad, c') ∧ ∃ (c : V) (cv : Value) (b : Bool), xs = [.ref ad, c] ∧ (∀ u, RelV c u → u = cv) ∧ PySem.W.kitOne K (.ref (cA c')) cv = some b ∧ ExcC K (cA c') ∧ Q (.bl b) H
def rIsXT (K : PySem.W.Frag) (cA : Str → Addr) (cur : Option (Addr × Str)) : List V → Hp → VK → Prop := fun xs H Q => ∃ ad c', cur = some (ad, c') ∧ ∃ (tp : Addr) (cs : List V) (us : List Value) (b : Bool), xs = [.ref ad, .ref tp] ∧ H tp = some (.tup cs) ∧ Paired ClsV cs us ∧ PySem.W.kitAny K (.ref (cA c')) us = some b ∧ ExcC K (cA c') ∧ Q (.bl b) H
section
variable {X : Cx} {cA : Str → Addr} {cur : Option (Addr × Str)}
theorem exc_inst {D a : Addr} {oe : Obj} {h : Heap} (hget : h.get? a = some oe) (hz : Zc (.ref D) none oe) (hf : ∃ vs, oe.data = .fields vs) : PySem.W.InstAt h a oe D none := by
  obtain ⟨vs, hv⟩ := hf
  obtain ⟨oc, od, oda, osl⟩ := oe
  obtain ⟨h1, h2⟩ := hz
  dsimp only at h1 h2 hv
  subst h1 h2 hv
  exact ⟨hget, rfl, rfl, trivial⟩
theorem call_isX (hcur : ∀ a x, cur = some (a, x) → ∃ oe, (a, oe) ∈ X.pn ∧ Zc (.ref (cA x)) none oe ∧ ∃ vs, oe.data = .fields vs) : CallR X (.builtin "isinstance") (rIsX X.K cA cur) := by
  intro pins s σ H xs us Q I r h
  obtain ⟨ad, c', hc, c, cv, b, rfl, hcv, e, C, q⟩ := h
  obtain ⟨oe, hp, hz, hf⟩ := hcur _ _ hc
  obtain ⟨u1, u2, rfl, r1, r2⟩ := vals2 r
  cases (show u1 = Value.ref ad from r1)
  cases hcv _ r2
  obtain ⟨hget, _⟩ := I.pin (ad, oe) (List.mem_append.mpr (.inl hp))
  exact PySem.W.kia_one (PySem.W.handS_kitx_exc C.hg C.hk C.hs C.hd C.ha C.hn C.ht C.hm) I.kIn (exc_inst hget hz hf) e (fun z => nomatch z) fun tk => ⟨.bl b, H, I.kept (t' := tk) fun _ _ z => z, rfl, q⟩
theorem call_isXT (hcur : ∀ a x, cur = some (a, x) → ∃ oe, (a, oe) ∈ X.pn ∧ Zc (.ref (cA x)) none oe ∧ ∃ vs, oe.data = .fields vs) : CallR X (.builtin "isinstance") (rIsXT X.K cA cur) := by
  intro pins s σ H xs us Q I r h
  obtain ⟨ad, c', hc, tp, cs, ws, b, rfl, hT, k, e, C, q⟩ := h
  obtain ⟨oe, hp, hz, hf⟩ := hcur _ _ hc
  obtain ⟨u1, u2, rfl, r1, r2⟩ := vals2 r
  cases (show u1 = Value.ref ad from r1)
  cases (show u2 = Value.ref tp from r2)
  obtain ⟨hget, _⟩ := I.pin (ad, oe) (List.mem_append.mpr (.inl hp))
  obtain ⟨_, its, rv, o, h1, h2, n, h3⟩ := (show ObjOk X.prog X.w H s.heap tp (.tup cs) from I.hok tp _ hT)
  have e3 := ClsV.all k rv
  subst e3
  obtain ⟨oc, od, dt, sl⟩ := o
  simp only at h2 h3
  subst h2 h3
  exact PySem.W.kia_tup (PySem.W.handS_kitx_exc C.hg C.hk C.hs C.hd C.ha C.hn C.ht C.hm) I.kIn (exc_inst hget hz hf) h1 e (fun z => nomatch z) fun tk => ⟨.bl b, H, I.kept (t' := tk) fun _ _ z => z, rfl, q⟩
/-- a class's name -/
def ClsAt (X : Cx) (z : Str) (cv : Value) : Prop := X.mg z = some cv ∨ (X.mg z = none ∧ bootBuiltins z = some cv ∧ z ≠ "__name__")
theorem _root_.L2.ClsV.rel {v : V} {cv : Value} (h : ClsV v cv) : RelV v cv := by
  cases h <;> rfl
theorem cls_name {z : Str} (hg : Gl X z) (hd : (z == ("__debug__" : Str)) = false) (p : Pos) : PE X (.Name z p) (fun σ H Q => ∃ v cv, ClsV v cv ∧ ClsAt X z cv ∧ Q v H) :=
  ⟨fun pins s σ H Q I ⟨v, cv, hv, hm, q⟩ => by
    rcases hm with hm | ⟨hm, hb, hn⟩
    · exact ld_glob I hg hm ⟨v, H, I, hv.rel, q⟩ hd
    · exact ld_blt I hg hm hb ⟨v, H, I, hv.rel, q⟩ hn hd⟩
def clsL (X : Cx) : List Str → List V → List Value → Prop
  | [], vs, us => vs = [] ∧ us = []
  | z :: zs, vs, us => ∃ v cv vs' us', vs = v :: vs' ∧ us = cv :: us' ∧ ClsV v cv ∧ ClsAt X z cv ∧ clsL X zs vs' us'
theorem clsL_len : ∀ {zs : List Str} {vs : List V} {us : List Value}, clsL X zs vs us → vs.length = zs.length
  | [], _, _, ⟨h, _⟩ => by rw [h]; rfl
  | z :: zs, _, _, ⟨v, cv, vs', us', e1, e2, _, _, r⟩ => by rw [e1, List.length_cons, List.length_cons, clsL_len r]
theorem cls_names {c : Ctx} (hg : ∀ x, glB c.sc x = true → Gl X x) : ∀ (zs : List Str) (es : List Expr), ckNm c zs es = true → PA X es (fun σ H Q => ∃ vs us, clsL X zs vs us ∧ Q vs H)
  | [], es, h => by
    simp only [ckNm] at h
    split at h
    · exact pa_nil.weak fun σ H Q ⟨vs, us, ⟨e, _⟩, q⟩ => by rw [e] at q; exact q
    · cases h
  | z :: zs, es, h => by
    simp only [ckNm] at h
    split at h
    · rename_i y p r
      obtain ⟨h, h3⟩ := ba h
      obtain ⟨h1, h2⟩ := ba h
      have hx := of_decide_eq_true h1
      subst hx
      refine (pa_cons (cls_name (hg _ h2) (by have := (ba (ba h2).1).2; simpa using this) p) (cls_names hg zs r h3) rfl).weak fun σ H Q ⟨vs, us, ⟨v, cv, vs', us', e1, e2, k1, k2, k3⟩, q⟩ => ?_
      subst e1
      exact ⟨v, cv, k1, k2, vs', us', k3, q⟩
    · cases h
end
theorem xks_ok {X : Cx} {cA : Str → Addr} {T : Tab} {k : Nat} {cur : Option (Addr × Str)} {c' : Str} (g : ∀ p ∈ T.xk, XkOk X.K X.mg cA p) : ∀ {zs : List Str} {b : Bool}, xkAny (orcE T k cur) c' zs = some b → ∃ vs us, clsL X zs vs us ∧ Paired ClsV vs us ∧ PySem.W.kitAny X.K (.ref (cA c')) us = some b ∧ (zs ≠ [] → ExcC X.K (cA c'))
  | [], b, h => by
    cases h
    exact ⟨[], [], ⟨rfl, rfl⟩, .nil, kitAny_nil, fun z => absurd rfl z⟩
  | z :: zs, b, h => by
    simp only [xkAny] at h
    split at h
    · rename_i b1 b2 h1 h2
      cases h
      obtain ⟨vs, us, k1, k2, k3, _⟩ := xks_ok g h2
      obtain ⟨w, cv, j1, j2, j3, j4, j5⟩ := g _ (xk_mem h1)
      refine ⟨w :: vs, cv :: us, ⟨w, cv, vs, us, rfl, rfl, j1, j2, k1⟩, .cons j1 k2, ?_, fun _ => j3⟩
      refine kitAny_cons j4 (fun e => ?_) (fun e => ?_)
      · rw [show b1 = false from e, Bool.false_or]; exact k3
      · rw [show b1 = true from e, Bool.true_or]
    · cases h
theorem isa_mem {T : Tab} {c x : Str} {b : Bool} (h : T.isa c x = some b) : (c, x, b) ∈ T.ia := by
  unfold Tab.isa at h
  cases hf : T.ia.find? fun p => decide (p.1 = c) && decide (p.2.1 = x) with
  | none => rw [hf] at h; cases h
  | some p =>
    rw [hf] at h
    have h1 := List.find?_some hf
    have h2 := List.mem_of_find?_eq_some hf
    obtain ⟨p1, p2, p3⟩ := p
    simp only [Bool.and_eq_true, decide_eq_true_eq] at h1
    obtain ⟨rfl, rfl⟩ := h1
    cases h
    exact h2
theorem clsIs_ok {C : Orc} {x : Str} {ob : Ob} {b : Bool} (h : clsIs C x ob = some b) : ∃ c fs, ob = .ins c fs ∧ C.isa c x = some b := by
  cases ob with
  | ins c fs => exact ⟨c, fs, rfl, h⟩
  | _ => cases h
theorem fldO_ok {C : Orc} {f : Str} {ob : Ob} {u : Va} (h : fldO C f ob = some u) : ∃ c fs, ob = .ins c fs ∧ C.noat c f = true ∧ fs.lookup f = some u := by
  cases ob with
  | ins c fs =>
    simp only [fldO] at h
    split at h
    · rename_i hn; exact ⟨c, fs, rfl, hn, h⟩
    · cases h
  | _ => cases h
theorem mkey_ok {C : Orc} {m : Str} {ob : Ob} {u : Str} (h : mkey C m ob = some u) : ∃ c fs, ob = .ins c fs ∧ fs.lookup m = none ∧ C.meth c m = some u := by
  cases ob with
  | ins c fs =>
    simp only [mkey] at h
    split at h
    · rename_i hn; exact ⟨c, fs, rfl, hn, h⟩
    · cases h
  | _ => cases h
theorem ckP_len {c : Ctx} : ∀ (m : Exs) (ks : List (Option Expr)) (vs : List Expr), ckP c m ks vs = true → ks.all (·.isSome) = true ∧ ks.length = vs.length
  | .nil, [], [], _ => ⟨rfl, rfl⟩
  | .nil, [], _ :: _, h => by simp [ckP] at h
  | .nil, _ :: _, _, h => by simp [ckP] at h
  | .cons m1 .nil, ks, vs, h => by simp [ckP] at h
  | .cons m1 (.cons m2 r), some k' :: ks, v' :: vs, h => by
    have h := show (ckE c m1 k' && ckE c m2 v' && ckP c r ks vs) = true from h
    obtain ⟨i1, i2⟩ := ckP_len r ks vs (ba h).2
    exact ⟨by rw [List.all_cons, i1]; rfl, by rw [List.length_cons, List.length_cons, i2]⟩
  | .cons m1 (.cons m2 r), [], _, h => by simp [ckP] at h
  | .cons m1 (.cons m2 r), none :: _, _, h => by simp [ckP] at h
  | .cons m1 (.cons m2 r), some _ :: _, [], h => by simp [ckP] at h
theorem m1_ok {X : Cx} {o e : Expr} {m : Str} {apos pos : Pos} (hb : plainB o = true) (hs : noStar e = true) (hl : (apos.endLine == pos.line) = true) : M1 X o m apos e pos where
  base := plainB_ok hb _ _ _
  few := few_ok (by rw [star_cons hs]; rfl) (by show 1 < 28; decide)
  line := hl
  trees := by rw [star_cons hs]; rfl
theorem m2_ok {X : Cx} {o e f : Expr} {m : Str} {apos pos : Pos} (hb : plainB o = true) (hs : noStar e = true) (hs2 : noStar f = true) (hl : (apos.endLine == pos.line) = true) : M2 X o m apos e f pos where
  base := plainB_ok hb _ _ _
  few := few_ok (by rw [star_cons hs, star_cons hs2]; rfl) (by show 2 < 28; decide)
  line := hl
  trees := by rw [star_cons hs, star_cons hs2]; rfl
/-- a written dict asked -/
theorem pe_kget2 {X : Cx} {x : Str} {e f : Expr} {ty tx : TE} {p apos cpos : Pos} (hg : Gl X x) (hdb : (x == ("__debug__" : Str)) = false) (he : PE X e ty) (hf : PE X f tx) (m : M2 X (.Name x p) "get" apos e f cpos) :
    PE X (.Call (.Attribute (.Name x p) "get" apos) [e, f] [] cpos) (fun σ H Q => ∃ A es n, X.mg x = some (.ref A) ∧ KDict X.K X.w A es n ∧ ty σ H fun y H1 => tx σ H1 fun z H2 => ∃ s r, y = .str s ∧ PySem.W.nsIn X.K A s = some r ∧ ((r = none ∧ Q z H2) ∨ ∃ u v, r = some u ∧ RelV v u ∧ Q v H2)) := by
  refine ⟨fun pins s σ H Q I ⟨A, es, n, hm, D, h⟩ => ?_⟩
  refine wpAny_Call_method m.base m.few m.line PySem.F.plainAttrs_dict PySem.F.slot_dict_get PySem.F.type_dict_get (ld_glob I hg hm ?_ hdb)
  refine ⟨kd_type D I, fun b z => by cases z; exact ⟨_, I.kIn _ _ D.at_, rfl⟩, ?_⟩
  rw [m.trees]
  have fin : ∀ {s' : Shared} {H' : Hp} {k' z : V} {kv zv : Value}, Inv X pins σ H' s' → RelV k' kv → RelV z zv → (∃ w r, k' = .str w ∧ PySem.W.nsIn X.K A w = some r ∧ ((r = none ∧ Q z H') ∨ ∃ u v, r = some u ∧ RelV v u ∧ Q v H')) → wpAny (model X.prog X.w) X.A (PySem.call (.builtin "dict.get") [.ref A, kv, zv]) (EP X pins σ Q) X.xe s' := fun {s' H' k' z kv zv} I' rk rz ⟨w, r, ek, hr, hq⟩ => by
    subst ek
    obtain ⟨t, rfl⟩ := rk
    have M := PySem.W.mapOf_K (prog := X.prog) (w := X.w) I'.kIn D.at_ D.lit
    have hfind := PySem.W.find_K D.at_ hr
    refine call_meetsIn PySem.F.slot_dict_get M.typeIs PySem.F.entry_dict_get (PySem.F.args_dict_get_3 _ _ _) (meets_dict_get_default (strKind X.prog X.w) A (PySem.strKind_is X.prog X.w w t) D.low zv) ⟨_, M, ?_⟩
    rw [hfind]
    rcases hq with ⟨e1, q⟩ | ⟨u, v, e1, rv, q⟩
    · subst e1
      exact ⟨z, H', I'.tok _, rz, q⟩
    · subst e1
      exact ⟨v, H', I'.tok _, rv, q⟩
  exact Calls.callWith_builtin rfl (Calls.evalArgs_plain (Calls.spliced_cons (thn (he.run pins s σ H _ I h) fun k1 s1 ⟨_, _, I1, r1, h1⟩ =>
    Calls.spliced_cons (thn (hf.run pins s1 σ _ _ I1 h1) fun k2 s2 ⟨_, _, I2, r2, w, r, ek, hr, hq⟩ => Calls.spliced_nil (fin I2 (by subst ek; exact r1) r2 ⟨w, r, rfl, hr, hq⟩)))))
/-- a comprehension's turns -/
theorem comp_ok {K : PySem.W.Frag} {cA : Str → Addr} {C : Orc} (hC : OrcMono C) {F F1 : Hp} {β β1 : List Addr} {S1 : Sto} {H1 : Hp} {Γ : Env} {σ : St} {J : L2.It} {xs : List Va} {G : Sto → Prop} {Q : VK} {own : List Nat} {elt : Ex} {tg : Tg} {cond : Tes0}
    (e1 : Ext F β F1 β1) (s1 : Sim K cA F1 β1 S1 H1) (en : EnvR K F1 β1 Γ σ) (i1 : ItOk K cA F1 β1 J xs G)
    (q : G (S1 ++ [.lst []]) ∧ cpL (fun x S => bindT S tg x (wipeA Γ own)) (fun Γ S Q => WT0 C cond Γ S Q) (fun Γ S Q => W C elt Γ S Q (fun _ _ => False)) G S1.length (post K cA F β Q) xs (S1 ++ [.lst []])) (hin : ∀ i ∈ tgS tg, i ∈ own) :
    ∀ D, H1 D = none → ∃ Wd : Nat → Nat → Hp → Prop, (∃ m, Wd 0 m (upd H1 D (.lst []))) ∧ ∀ i m H, Wd i m H →
      (J.stop i H ∧ Q (.ref D) H) ∨ (J.go i H ∧ ∃ Nx : Hp → Prop, (∀ H', Nx H' → ∃ m', m' < m ∧ Wd (i + 1) m' H') ∧ ∀ x H', J.yld i H x H' → liftG K cA (tgS tg) (fun S v Γ => bindT S tg v Γ) x (wipe σ own) H' fun σ2 H2 => wipe σ2 own = wipe σ own ∧
        liftT K cA (fun _ _ _ _ => False) (fun Γ S P _ => WT0 C cond Γ S P) σ2 H2 fun b H3 => if b = true then liftE K cA (fun _ _ _ _ => False) (W C elt) σ2 H3 fun y H4 => ∃ acc, H4 D = some (.lst acc) ∧ acc.length < sizeLine ∧ Nx (upd H4 D (.lst (acc ++ [y]))) else Nx H3) := by
  intro D hD
  have s2 := s1.new hD (o := .lst []) (u := .lst []) ⟨[], upd_same, rfl⟩
  have eD : Ext F1 β1 F1 (β1 ++ [D]) := ⟨Same.refl _, List.prefix_append _ _⟩
  have atD : (β1 ++ [D])[S1.length]? = some D := by rw [← s1.len]; simp
  obtain ⟨q1, q2⟩ := q
  refine ⟨fun i m H => m = xs.length - i ∧ i ≤ xs.length ∧ ∃ F' β' S', Ext F1 (β1 ++ [D]) F' β' ∧ Sim K cA F' β' S' H ∧ G S' ∧ cpL (fun x S => bindT S tg x (wipeA Γ own)) (fun Γ S Q => WT0 C cond Γ S Q) (fun Γ S Q => W C elt Γ S Q (fun _ _ => False)) G S1.length (post K cA F β Q) (xs.drop i) S',
    ⟨xs.length, rfl, Nat.zero_le _, F1, β1 ++ [D], S1 ++ [Ob.lst []], Ext.refl _ _, s2, q1, by exact q2⟩, ?_⟩
  rintro i m H ⟨rfl, hi, F', β', S', e', s', g', c'⟩
  have eJ : Ext F1 β1 F' β' := eD.trans e'
  by_cases hlt : i < xs.length
  · refine .inr ⟨i1.go F' β' S' H i eJ s' g' hlt, fun H' => ∃ F' β' S', Ext F1 (β1 ++ [D]) F' β' ∧ Sim K cA F' β' S' H' ∧ G S' ∧ cpL (fun x S => bindT S tg x (wipeA Γ own)) (fun Γ S Q => WT0 C cond Γ S Q) (fun Γ S Q => W C elt Γ S Q (fun _ _ => False)) G S1.length (post K cA F β Q) (xs.drop (i + 1)) S',
      fun H' z => ⟨xs.length - (i + 1), by omega, rfl, hlt, z⟩, fun x H' hy => ?_⟩
    obtain ⟨F2, v, hv, e2, s2, r2⟩ := i1.yld F' β' S' H i x H' eJ s' g' hlt hy
    have hd : xs.drop i = v :: xs.drop (i + 1) := by
      rw [List.drop_eq_getElem_cons hlt]
      rw [List.getElem?_eq_getElem hlt] at hv
      cases hv; rfl
    rw [hd] at c'
    obtain ⟨Γ1, hb, ht⟩ := c'
    refine ⟨F2, β', wipeA Γ own, S', v, Γ1, s2, (en.ext (eJ.trans e2)).wipe own, r2, hb, fun σ2 en2 l2 o2 => ⟨wipe_wipe o2 l2 hin, F2, β', Γ1, S', s2, en2, WT0_mono hC cond _ _ _ _ (fun b S3 q3 F3 β3 H3 e3 s3 => ?_) ht⟩⟩
    cases b with
    | false => exact ⟨F3, β3, S3, (e'.trans e2).trans e3, s3, q3⟩
    | true =>
      refine ⟨F3, β3, Γ1, S3, s3, en2.ext e3, W_mono hC elt _ _ _ _ _ _ (fun y S4 ⟨acc, h1, h2, h3, h4⟩ F4 β4 H4 z e4 s4 r4 => ?_) (fun _ _ z => z.elim) q3⟩
      have eD4 : Ext F1 (β1 ++ [D]) F4 β4 := ((e'.trans e2).trans e3).trans e4
      have aD : β4[S1.length]? = some D := pre_get eD4.pre atD
      obtain ⟨a, ys, ea, ta, e5, q5⟩ := loc_ok s4 h1 (x := .ref D) ⟨D, rfl, aD⟩
      cases ea
      refine ⟨ys, e5, by rw [← q5.len]; exact Nat.lt_trans h2 (by decide), F4, β4, _, eD4, put_lst s4 h1 aD (VRs.append q5 (VRs.one r4)), h3, h4⟩
  · have ei : i = xs.length := by omega
    subst ei
    refine .inl ⟨i1.stop F' β' S' H eJ s' g', ?_⟩
    rw [List.drop_length] at c'
    exact c' F' β' H (.ref D) (e1.trans eJ) s' ⟨D, rfl, pre_get e'.pre atD⟩

/-! ### a[::2] -/
theorem evens_range {α : Type} : ∀ (n : Nat) (xs : List α), xs.length ≤ n → (List.range ((xs.length + 1) / 2)).filterMap (fun k => xs[2 * k]?) = evensL xs
  | _, [], _ => by simp [evensL]
  | _, [x], _ => by
    have e : ([x].length + 1) / 2 = 1 := by simp
    rw [e]
    simp [evensL, List.range_succ]
  | 0, _ :: _ :: _, h => by simp at h
  | n + 1, x :: y :: r, h => by
    have ih := evens_range n r (by simp at h; omega)
    have e : ((x :: y :: r).length + 1) / 2 = (r.length + 1) / 2 + 1 := by simp only [List.length_cons]; omega
    rw [e, List.range_succ_eq_map, List.filterMap_cons]
    simp only [Nat.mul_zero, List.getElem?_cons_zero]
    rw [List.filterMap_map]
    refine congrArg (x :: ·) (Eq.trans ?_ ih)
    refine congrArg (List.filterMap · _) (funext fun k => ?_)
    show (x :: y :: r)[2 * (k + 1)]? = r[2 * k]?
    rw [show 2 * (k + 1) = (2 * k + 1) + 1 from by omega, List.getElem?_cons_succ, List.getElem?_cons_succ]
theorem pick_evens (items : Array Value) : slicePick items none none (some 2) = (evensL items.toList).toArray := by
  unfold slicePick
  have e : sliceRange (sliceBounds none none (some 2) items.size).1 (sliceBounds none none (some 2) items.size).2.1 (sliceBounds none none (some 2) items.size).2.2 = (List.range ((items.size + 1) / 2)).map (fun k => 2 * k) := by
    show sliceRange 0 (items.size : Int) 2 = _
    unfold sliceRange
    have h1 : (2 : Int) > 0 := by decide
    simp only [h1, if_true]
    by_cases h : (0 : Int) < items.size
    · rw [if_pos h]
      have e2 : (((items.size : Int) - 0 + 2 - 1) / 2).toNat = (items.size + 1) / 2 := by omega
      rw [e2]
      refine List.map_congr_left fun k _ => ?_
      omega
    · rw [if_neg h]
      have e3 : items.size = 0 := by omega
      rw [e3]; rfl
  rw [e, List.filterMap_map]
  congr 1
  rw [← evens_range items.toList.length items.toList (Nat.le_refl _)]
  rw [Array.length_toList]
  refine congrArg (List.filterMap · _) (funext fun k => ?_)
  show items[2 * k]? = items.toList[2 * k]?
  simp
theorem evens_len {α : Type} : ∀ (xs : List α), (evensL xs).length ≤ xs.length
  | [] => Nat.le_refl _
  | [x] => Nat.le_refl _
  | x :: y :: r => by have := evens_len r; simp only [evensL, List.length_cons]; omega
theorem VRs.evens {K : PySem.W.Frag} {F : Hp} {β : List Addr} : ∀ {xs : List Va} {ys : List V}, VRs K F β xs ys → VRs K F β (evensL xs) (evensL ys)
  | [], _, h => by cases (show _ = [] from h); rfl
  | [x], _, ⟨y, r, e, q, h⟩ => by cases (show r = [] from h); subst e; exact ⟨y, [], rfl, q, rfl⟩
  | x :: x2 :: xs, _, ⟨y, r, e, q, y2, r2, e2, q2, h⟩ => by subst e; subst e2; exact ⟨y, _, rfl, q, VRs.evens h⟩
theorem vals_evens : ∀ {xs : List V} {us : List Value}, Vals xs us → Vals (evensL xs) (evensL us)
  | _, _, .nil => .nil
  | _, _, .cons a .nil => .cons a .nil
  | _, _, .cons a (.cons _ t) => .cons a (vals_evens t)
def tEvens (K : PySem.W.Frag) (te : TE) : TE := fun σ H Q => te σ H fun x H1 => ∃ a xs, x = .ref a ∧ SqL K H1 a xs ∧ ∀ p, H1 p = none → Q (.ref p) (upd H1 p (.lst (evensL xs)))
theorem pe_evens {X : Cx} {e : Expr} {te : TE} {j : Nat} {p1 p2 pos : Pos} (he : PE X e te) : PE X (.Subscript e (.Slice none none (some (.Constant (.int 2) j p1)) p2) pos) (tEvens X.K te) := by
  refine ⟨fun pins s σ H Q I h => ?_⟩
  refine PyProof.Rows.Subscript_ (thn (he.run pins s σ H _ I h) fun v s1 ⟨x, H1, I1, r1, a, xs, ex, hx, q1⟩ => ?_)
  subst ex
  cases r1
  refine wpAny_Slice ?_
  rw [evalPart_none]
  refine wpAny_pure (wpAny_pure ?_)
  rw [evalPart_some]
  refine wpAny_Constant_int ?_
  have I4 : Inv X pins σ H1 { s1 with heap := s1.heap.push { cls := .type "slice", data := .fields #[.none, .none, .int 2 s1.toks] }, toks := s1.toks + 1 } := I1.kept fun b ob q => Heap.get?_push_of_some _ q
  obtain ⟨its, r, ht, hz⟩ := I4.list hx
  have hlen := r.length
  refine PyProof.Rows.tail_any (ops := [.ref a, .ref s1.heap.objs.size]) ht.isList.typeIs slot_list_getitem.lookup ?_ (by with_unfolding_all rfl)
  refine wpAny_getItem_list_slice ht.isList (Heap.IsSliceOf.new ..) .none .none (.int 2 s1.toks) (by simp) ?_ (by rw [List.size_toArray] <;> omega)
  rw [pick_evens]
  refine ⟨.ref _, _, I4.laid (t' := _) (o := .lst (evensL xs)) (fun b ob q => Heap.get?_push_of_some _ q) (Nat.le_refl _) ?_, rfl, q1 _ (I4.hok.fresh (Nat.le_refl _))⟩
  exact ⟨Nat.le_trans (evens_len xs) hz, _, 0, vals_evens r, Heap.get?_push_size _ rfl⟩
/-! ### functions made here -/
theorem ckLc_star {c : Ctx} {id : Str} {js : List Nat} : ∀ (ms : Exs) (es : List Expr) (pos : Pos) (env : PySem.Env), ckLc c id js ms es = true → (backTo pos (starEach es env)).any (·.1) = false
  | .nil, es, pos, env, h => by
    simp only [ckLc] at h
    split at h
    · rfl
    · cases h
  | .cons m ms, es, pos, env, h => by
    simp only [ckLc] at h
    split at h
    · obtain ⟨h, h3⟩ := ba h
      obtain ⟨h1, h2⟩ := ba h
      rw [star_cons h2]
      have := ckLc_star ms _ pos env h3
      simpa [backTo] using this
    · cases h
theorem ckLc_first {c : Ctx} {id : Str} {js : List Nat} (es : Exs) (e : List Expr) (pos : Pos) (env : PySem.Env) (h3 : ckLc c id js es e = true) : ∃ e1 es', e = e1 :: es' ∧ starEach (e1 :: es') env = (false, eval e1 env) :: starEach es' env ∧ (backTo pos (starEach es' env)).any (·.1) = false := by
  cases es with
  | nil =>
    simp only [ckLc] at h3
    split at h3
    · exact ⟨_, _, rfl, rfl, rfl⟩
    · cases h3
  | cons m ms =>
    simp only [ckLc] at h3
    split at h3
    · obtain ⟨h3, h5⟩ := ba h3
      exact ⟨_, _, rfl, star_cons (ba h3).2 _ _, ckLc_star ms _ _ _ h5⟩
    · cases h3
theorem plainA_def {params : Arguments} (h : (plainA params).isSome = true) (env : PySem.Env) : defaultsOf params env = ([], []) := by
  unfold plainA at h
  split at h
  · rfl
  · rfl
  · rfl
  · cases h
theorem getD_of {N : List Str} {j : Nat} (h : (N[j]?).isSome = true) : N[j]? = some (N.getD j "") := by
  cases e : N[j]? with
  | none => rw [e] at h; cases h
  | some x => simp [List.getD, e]
/-- what is captured, as values -/
theorem caps_ok {K : PySem.W.Frag} {F : Hp} {β : List Addr} {Γ : Env} {σ : St} (en : EnvR K F β Γ σ) : ∀ {js : List Nat} {ws : List Va}, capsA Γ js = some ws → ∃ xs, VRs K F β ws xs ∧ js.map (NdefX.slotAt σ) = xs.map some
  | [], ws, h => by cases h; exact ⟨[], rfl, rfl⟩
  | j :: js, ws, h => by
    simp only [capsA] at h
    split at h
    · rename_i v vs h1 h2
      cases h
      obtain ⟨x, e1, r⟩ := en.get h1
      obtain ⟨xs, rs, e2⟩ := caps_ok en h2
      exact ⟨x :: xs, ⟨x, xs, rfl, r, rs⟩, by rw [List.map_cons, List.map_cons, e2, NdefX.slotAt_of e1]⟩
    · cases h
theorem env_of {K : PySem.W.Frag} {F : Hp} {β : List Addr} : ∀ {us : List Va} {xs : List V}, VRs K F β us xs → EnvR K F β (us.map some) (xs.map some)
  | [], _, h => by cases (show _ = [] from h); trivial
  | u :: us, _, ⟨x, xs, e, q, qs⟩ => by subst e; exact ⟨q, env_of qs⟩
/-- what the def's arguments hold, from its frame at the start -/
theorem start_caps {N : List Str} {xs xw : List V} {js : List Nat} (h : js.map (NdefX.slotAt (xs.map some)) = xw.map some) : js.map (NdefX.slotAt (L2.start N xs)) = xw.map some := by
  rw [← h]
  refine List.map_congr_left fun j hj => ?_
  have hm : NdefX.slotAt (xs.map some) j ∈ xw.map some := by rw [← h]; exact List.mem_map.mpr ⟨j, hj, rfl⟩
  obtain ⟨v, _, ev⟩ := List.mem_map.mp hm
  have e := NdefX.slotAt_some ev.symm
  have hl := lt_of_get e
  unfold NdefX.slotAt L2.start
  rw [List.getElem?_append_left hl]
/-- a call of a def that makes a function: the function, the base with it -/
theorem mk_hand {c : Ctx} {cA : Str → Addr} {T : Tab} {k : Nat} {cur : Option (Addr × Str)} {Wx : WX} {X : Cx} (g : Gd c cA T k cur Wx X) {m id q : Str} {js : List Nat} {n : Nat} (hm : c.fs.contains m = true) (ht : T.mkf m = some (id, q, js, n)) (hh : c.hot = false)
    {pins : List (Addr × Obj)} {σ : St} {H : Hp} {s : Shared} (I : Inv X pins σ H s) {F : Hp} {β : List Addr} {S : Sto} (si : Sim X.K cA F β S H) (hT : hasTab S q) {us : List Value} {xs xw : List V} (rv : Vals xs us) (hl : xs.length = n) (hxs : js.map (NdefX.slotAt (xs.map some)) = xw.map some) {a : Addr} (ha : X.mg m = some (.ref a)) {Post : Value → Shared → Prop}
    (h : ∀ (z : Clo) (H1 : Hp) (s1 : Shared) (F1 : Hp) (base : Heap), z.id = id → z.xs = xw → Inv X pins σ H1 s1 → Ext F β F1 β → Sim X.K cA F1 β S H1 → F1 z.c = some (LamX.CodeO z.c z.q) → Env0 X.prog X.w X.K X.mg base X.A X.stack s1 H1 → FnsOk X.prog X.w X.K X.mg base cA (T.add z) k c.fs → Post (.ref z.f) s1) :
    wpAny (model X.prog X.w) X.A (PySem.call (.ref a) us) Post X.xe s := by
  obtain ⟨a', nm, ip, ib, isc, fr, N, d2, h1, h2, h3, h4, run⟩ := g.mkr m (by simpa using hm) id q js n ht
  rw [ha] at h1
  cases h1
  obtain ⟨ti, hti⟩ := hT
  refine wpAny_call (codeAny_mono (run X.A X.stack s H us xs ((g.room hh).mono (by omega)) I.env0 rv hl (si.tabS hti)) fun r s' ⟨f, er, c', doc, pm, ctv, cl, H1, os, bare, un, hok, hf, hn, hfs, tu, CA, hcl⟩ => ?_)
  subst er
  show Post (.ref f) s'
  obtain ⟨hh', gg, dd, tt, os'⟩ := s'
  obtain rfl : os' = s.os := os
  have I1 := I.call (h' := hh') (g' := gg) (d' := dd) (t' := tt) (ch := []) un hok bare (fun b z => absurd z (by simp))
  obtain ⟨F1, x1, s2, hc1⟩ := si.tabUpC hti tu
  rw [start_caps hxs] at CA
  obtain ⟨base, sub, kept, e0⟩ := base_addL I1 (fun b => b = f ∨ ∃ y, cl.lookup y = some b) fun b hb => by
    rcases hb with rfl | ⟨y, hy⟩
    · exact ⟨hn, hfs⟩
    · exact ⟨(CA.all y b hy).1, hcl y b hy⟩
  have CB : CellsB cl fr xw base := by
    refine ⟨by have := CA.len; rw [List.length_map] at this; exact this, fun y cell e => ?_, CA.inj, fun i y e => ?_⟩
    · obtain ⟨_, v, o, ho, hd⟩ := CA.all y cell e
      exact ⟨v, o, kept _ _ (.inr ⟨y, e⟩) ho, hd⟩
    · obtain ⟨cell, e2, hv⟩ := CA.has i y e
      have hi : i < xw.length := by
        have l1 := CA.len
        rw [List.length_map] at l1
        rw [l1]; exact lt_of_get e
      obtain ⟨u, ru, o, ho, hd⟩ := hv xw[i] (by rw [List.getElem?_map, List.getElem?_eq_getElem hi]; rfl)
      exact ⟨cell, e2, xw[i], u, List.getElem?_eq_getElem hi, ru, o, kept _ _ (.inr ⟨y, e2⟩) ho, hd⟩
  exact h ⟨f, c', id, q, xw⟩ H1 _ F1 base rfl rfl I1 x1 s2 hc1 e0 (g.up base ⟨f, c', id, q, xw⟩ sub ⟨nm, ip, .stmts ib, isc, cl, fr, d2, doc, pm, ctv, none, #[], h3, h4, kept _ _ (.inl rfl) hf, CB⟩)
theorem drop_last {α : Type} : ∀ {l : List α} {a : α}, l.getLast? = some a → l.dropLast ++ [a] = l
  | [], a, h => by cases h
  | [x], a, h => by cases h; rfl
  | x :: y :: r, a, h => by
    have := drop_last (l := y :: r) (a := a) (by rw [List.getLast?_cons_cons] at h; exact h)
    show x :: ((y :: r).dropLast ++ [a]) = _
    rw [this]
theorem ckL_star_last {c : Ctx} {last : Expr} (hl : noStar last = true) : ∀ (ms : Exs) (es : List Expr) (pos : Pos) (env : PySem.Env), ckL c ms es = true → (backTo pos (starEach (es ++ [last]) env)).any (·.1) = false
  | .nil, es, pos, env, h => by
    simp only [ckL] at h
    split at h
    · rw [List.nil_append, star_cons hl]; rfl
    · cases h
  | .cons m ms, es, pos, env, h => by
    simp only [ckL] at h
    split at h
    · obtain ⟨h, h3⟩ := ba h
      obtain ⟨h1, h2⟩ := ba h
      rw [List.cons_append, star_cons h2]
      have := ckL_star_last hl ms _ pos env h3
      simpa [backTo] using this
    · cases h
theorem ckL_first_last {c : Ctx} {last : Expr} (hl : noStar last = true) (es : Exs) (e : List Expr) (pos : Pos) (env : PySem.Env) (h : ckL c es e = true) : ∃ e1 er, e ++ [last] = e1 :: er ∧ starEach (e1 :: er) env = (false, eval e1 env) :: starEach er env ∧ (backTo pos (starEach er env)).any (·.1) = false := by
  cases es with
  | nil =>
    simp only [ckL] at h
    split at h
    · exact ⟨last, [], rfl, star_cons hl _ _, rfl⟩
    · cases h
  | cons m ms =>
    simp only [ckL] at h
    split at h
    · obtain ⟨h, h3⟩ := ba h
      exact ⟨_, _, rfl, star_cons (ba h).2 _ _, ckL_star_last hl ms _ _ _ h3⟩
    · cases h
/-- a def called over a base of its own -/
theorem run_hand {X : Cx} {CX : CXT} {E : XK} {base : Heap} {k : Nat} {f : Addr} {fd : FuncData} {ps : List Str} {sp : Sp} {pins : List (Addr × Obj)} {σ : St} {H : Hp} {s : Shared} {Q : VK} {us : List Value} {xs : List V} (F : FnOk X.prog X.w X.K X.mg base CX k f fd ps sp) (hr : Room k X.A) (hb : Binds X.K fd ps []) (hx : PassesAt CX X σ E)
    (I : Inv X pins σ H s) (e0 : Env0 X.prog X.w X.K X.mg base X.A X.stack s H) (r : Vals xs us) (h : sp xs H Q E) : wpAny (model X.prog X.w) X.A (PySem.call (.ref f) us) (EP X pins σ Q) X.xe s := by
  have hl : us.length = ps.length := by rw [← r.length]; exact F.len _ _ _ _ h
  have b := hb s us I.kIn (by rw [List.append_nil]; exact hl)
  rw [List.append_nil] at b
  refine wpAny_call (codeAny_mono (F.run X.A X.stack s H ⟨us, []⟩ us xs Q E hr e0 b r h) fun r s' hq => ?_)
  cases r with
  | error e => exact hx pins H s e s' I hq
  | ok fl =>
    cases fl with
    | ret u => exact I.after hq
    | next => exact False.elim hq
    | brk => exact False.elim hq
    | cont => exact False.elim hq
/-- f(e, .., x = v), x the last parameter -/
theorem pe_callKx {X : Cx} {CX : CXT} {k : Nat} {f : Addr} {fd : FuncData} {ps : List Str} {sp : Sp} {E : St → XK} {x y : Str} {p pos kpos : Pos} {e e2 : Expr} {es : List Expr} {t : TA} {te : TE} (F : FnOk X.prog X.w X.K X.mg X.base CX k f fd ps sp) (hr : Room k X.A) (hg : Gl X x) (hm : X.mg x = some (.ref f)) (hk : PySem.W.keepIn X.K (.ref f) = true) (hb : KB1 X.K fd ps y) (hx : ∀ σ, PassesAt CX X σ (E σ))
    (ha : PA X (e :: es) t) (hkw : PE X e2 te) (hdb : (x == ("__debug__" : Str)) = false) (he : starEach (e :: es) X.env = (false, eval e X.env) :: starEach es X.env) (hpl : (backTo pos (starEach es X.env)).any (·.1) = false) :
    PE X (.Call (.Name x p) (e :: es) [⟨some y, e2, kpos⟩] pos) (fun σ H Q => t σ H fun vs H1 => te σ H1 fun z H2 => sp (vs ++ [z]) H2 Q (E σ)) := by
  refine ⟨fun pins s σ H Q I h => ?_⟩
  refine wpAny_Call_Name_kw (ld_glob I hg hm ?_ hdb)
  refine PySem.W.callWith_KW (h₀ := X.base) I.ok.mod.kin hk rfl (thn (ha.run pos pins s σ H _ I h) fun us s1 ⟨vs, H1, I1, r, q⟩ => ?_) (by
    rw [he]
    show ((false || (backTo pos (starEach es X.env)).any (·.1)) || false) = false
    rw [hpl]; rfl) he
  show wpAny _ _ (evalAll ((do let v ← eval e2 X.env; standAt pos; pure v) :: (backToKw pos (keywordEach [] X.env)).map (·.2))) _ _ s1
  refine wpAny_evalAll_cons (wpAny_bind (thn (hkw.run pins s1 σ H1 _ I1 q) fun u s2 ⟨z, H2, I2, rz, q2⟩ => wpAny_bind (wpAny_standAt (wpAny_pure (wpAny_evalAll_nil ⟨I2.kIn, ?_⟩)))))
  have r2 : Vals (vs ++ [z]) (us ++ [u]) := r.append (.cons rz .nil)
  have hl : us.length + 1 = ps.length := by
    have := F.len _ _ _ _ q2
    rw [List.length_append, r.length] at this
    exact this
  show wpAny _ _ (PySem.call (.ref f) us [(y, u)]) _ _ _
  refine wpAny_call (codeAny_mono (F.run X.A X.stack s2 H2 ⟨us, [(y, u)]⟩ (us ++ [u]) (vs ++ [z]) Q (E σ) hr I2.env0 (hb s2 us u I2.kIn hl) r2 q2) fun r s' hq => ?_)
  cases r with
  | error e => exact hx σ pins H2 s2 e s' I2 hq
  | ok fl =>
    cases fl with
    | ret u => exact I2.after hq
    | next => exact False.elim hq
    | brk => exact False.elim hq
    | cont => exact False.elim hq
/-- a function made here: the base with it -/
theorem fn_base {c : Ctx} {cA : Str → Addr} {T : Tab} {k : Nat} {cur : Option (Addr × Str)} {Wx : WX} {X : Cx} (g : Gd c cA T k cur Wx X) {id q : Str} {js : List Nat} {params : Arguments} {bd : FuncBody} {scope : Scope} (hk : ckLam c id js params bd scope = true) (hq : c.lm ≠ [])
    {pins : List (Addr × Obj)} {σ : St} {H1 : Hp} {s1 : Shared} (I1 : Inv X pins σ H1 s1) {xs : List V} (hxs : js.map (NdefX.slotAt σ) = xs.map some) {f c' : Addr} {nm : Str} {doc pm ctv : Value} {od : Option Addr} {sl : Array (Option Value)}
    (hf : s1.heap.get? f = some (⟨.type "function", od, .func (cloFd nm q params bd scope (cloFrom X.env.cells scope.names []) c' doc pm ctv), sl⟩ : Obj)) (hn : H1 f = none) (hfs : f ∉ frs X.stack) :
    ∃ base, Env0 X.prog X.w X.K X.mg base X.A X.stack s1 H1 ∧ FnsOk X.prog X.w X.K X.mg base cA (T.add ⟨f, c', id, q, xs⟩) k c.fs := by
  obtain ⟨hk, h4⟩ := ba hk
  obtain ⟨hk, h3⟩ := ba hk
  obtain ⟨h1, h2⟩ := ba hk
  have hfr : ∀ y ∈ scope.names, y.2 = .free → X.env.scope.names.lookup y.1 = some .cell ∨ X.env.scope.names.lookup y.1 = some .free := by rw [g.sc]; exact NdefX.ndef_free h2
  obtain ⟨base, sub, bf, bc, e0⟩ := base_add I1 (g.fnall hq) hf hn hfs
  obtain ⟨d, hd, hkN⟩ := g.ndk _ _ _ _ _ h4
  have hjs : js.map (fun j => X.N[j]?) = (js.map fun j => c.N.getD j "").map some := by
    rw [List.map_map]
    refine List.map_congr_left fun j hj => ?_
    rw [g.hN]
    exact getD_of (List.all_eq_true.mp h1 j hj)
  have cp : NdefX.Caps X (cloFrom X.env.cells scope.names []) (js.map fun j => c.N.getD j "") js := NdefX.Caps.made I1.ok hfr (NdefX.ndef_fr h2) hjs
  have CA := NdefX.cells_of I1 cp
  have toB : ∀ y cl v, X.env.cells.lookup y = some cl → s1.heap.IsCell cl v → base.IsCell cl v := fun y cl v e ⟨o, ho, hd⟩ => ⟨o, bc y cl o e ho, hd⟩
  have CB : CellsB (cloFrom X.env.cells scope.names []) (js.map fun j => c.N.getD j "") xs base := by
    have hl := congrArg List.length hxs
    rw [List.length_map, List.length_map] at hl
    refine ⟨by rw [List.length_map, hl], fun y cl e => ?_, CA.inj, fun i y e => ?_⟩
    · obtain ⟨_, v, z⟩ := CA.all y cl e
      exact ⟨v, toB y cl v (cp.sub y cl e) z⟩
    · obtain ⟨cl, e2, hv⟩ := CA.has i y e
      have hi : i < xs.length := by
        have := lt_of_get e
        rw [List.length_map] at this
        omega
      have ev : (js.map (NdefX.slotAt σ))[i]? = some (some xs[i]) := by rw [hxs, List.getElem?_map, List.getElem?_eq_getElem hi]; rfl
      obtain ⟨u, ru, hu⟩ := hv xs[i] ev
      exact ⟨cl, e2, xs[i], u, List.getElem?_eq_getElem hi, ru, toB y cl _ (cp.sub y cl e2) hu⟩
  exact ⟨base, e0, g.up base ⟨f, c', id, q, xs⟩ sub ⟨nm, params, bd, scope, _, _, d, doc, pm, ctv, od, sl, hd, hkN, bf, CB⟩⟩
/-- a lambda handed over: the function, the base with it -/
theorem lam_hand {c : Ctx} {cA : Str → Addr} {T : Tab} {k : Nat} {cur : Option (Addr × Str)} {Wx : WX} {X : Cx} (g : Gd c cA T k cur Wx X) {id q : Str} {js : List Nat} {params : Arguments} {body : Expr} {scope : Scope} {lpos : Pos} (hk : ckLam c id js params (.expr body) scope = true) (hq : c.lm.contains ("<lambda>", q) = true)
    {pins : List (Addr × Obj)} {σ : St} {H : Hp} {s : Shared} (I : Inv X pins σ H s) {F : Hp} {β : List Addr} {S : Sto} (si : Sim X.K cA F β S H) (ht : hasTab S q) {xs : List V} (hxs : js.map (NdefX.slotAt σ) = xs.map some) {Post : Value → Shared → Prop}
    (h : ∀ (z : Clo) (H1 : Hp) (s1 : Shared) (F1 : Hp) (base : Heap), z.id = id → z.xs = xs → Inv X pins σ H1 s1 → Ext F β F1 β → Sim X.K cA F1 β S H1 → F1 z.c = some (LamX.CodeO z.c z.q) → Env0 X.prog X.w X.K X.mg base X.A X.stack s1 H1 → FnsOk X.prog X.w X.K X.mg base cA (T.add z) k c.fs → PySem.W.FnAt z.f s1.heap → Post (.ref z.f) s1) :
    wpAny (model X.prog X.w) X.A (eval (.Lambda params body scope lpos) X.env) Post X.xe s := by
  have hk' := hk
  obtain ⟨hk, h4⟩ := ba hk
  obtain ⟨hk, h3⟩ := ba hk
  obtain ⟨h1, h2⟩ := ba hk
  obtain ⟨i, hi⟩ := ht
  have hm : (("<lambda>" : Str), q) ∈ c.lm := by simpa using hq
  obtain ⟨eq, cc, hcode, TB⟩ := g.lam _ hm
  have hfr : ∀ y ∈ scope.names, y.2 = .free → X.env.scope.names.lookup y.1 = some .cell ∨ X.env.scope.names.lookup y.1 = some .free := by rw [g.sc]; exact NdefX.ndef_free h2
  have hfree : ∀ y ∈ scope.names, y.2 = .free → ∃ c, X.env.cells.lookup y.1 = some c := fun y hy e => (hfr y hy e).elim (fun z => I.ok.has _ (.inl z)) fun z => I.ok.has _ (.inr z)
  refine lam_free I TB hcode eq (si.tabS hi) (plainA_def h3 _) hfree fun f c' pm ctv H1 s1 I1 hf hn hfs tu => ?_
  obtain ⟨F1, e1, s2, hc1⟩ := si.tabUpC hi tu
  obtain ⟨base, e0, hup⟩ := fn_base g hk' (fun e => by rw [e] at hm; cases hm) I1 hxs (nm := "<lambda>") (doc := .none) hf hn hfs
  exact h ⟨f, c', id, q, xs⟩ H1 s1 F1 base rfl rfl I1 e1 s2 hc1 e0 hup ⟨_, _, _, _, hf⟩
section
variable {c : Ctx} {cA : Str → Addr} {T : Tab} {k : Nat} {cur : Option (Addr × Str)}
mutual
theorem sndE : ∀ (c : Ctx) (m : Ex) (X : Cx) (Wx : WX), Gd c cA T k cur Wx X → ∀ (e : Expr), ckE c m e = true → PE X e (liftE X.K cA Wx (W (orcE T k cur) m))
  | c, .var i, X, Wx, g, e, h => by
    simp only [ckE] at h
    split at h
    · obtain ⟨h1, h2⟩ := ba h
      refine (pe_var (i := i) (by rw [g.hN]; exact of_decide_eq_true h1) (g.vis _ h2) ?_ ?_).weak fun σ H Q ⟨F, β, Γ, S, s, en, v, hv, q⟩ => ?_
      · have := (ba (ba h2).1).2; simpa using this
      · have := (ba h2).2; simpa using this
      · obtain ⟨x, e1, r⟩ := en.get hv
        exact ⟨x, e1, post_here s r q⟩
    · cases h
  | c, .int i, X, Wx, g, e, h => by
    simp only [ckE] at h
    split at h
    · have := of_decide_eq_true h
      subst this
      exact pe_int.weak fun σ H Q ⟨F, β, Γ, S, s, en, q⟩ => post_here (v := .int _) s rfl q
    · cases h
  | c, .bl b, X, Wx, g, e, h => by
    simp only [ckE] at h
    split at h
    · have := of_decide_eq_true h
      subst this
      exact pe_bl.weak fun σ H Q ⟨F, β, Γ, S, s, en, q⟩ => post_here (v := .bl _) s rfl q
    · cases h
  | c, .non, X, Wx, g, e, h => by
    simp only [ckE] at h
    split at h
    · exact pe_non.weak fun σ H Q ⟨F, β, Γ, S, s, en, q⟩ => post_here (v := .non) s rfl q
    · cases h
  | c, .str x, X, Wx, g, e, h => by
    simp only [ckE] at h
    split at h
    · have := of_decide_eq_true h
      subst this
      exact pe_str.weak fun σ H Q ⟨F, β, Γ, S, s, en, q⟩ => post_here (v := .str _) s rfl q
    · cases h
  | c, .glob x, X, Wx, g, e, h => by
    simp only [ckE] at h
    split at h
    · obtain ⟨h1, h2⟩ := ba h
      have hx := of_decide_eq_true h1
      subst hx
      refine ⟨fun pins s σ H Q I ⟨F, β, Γ, S, si, en, v, hv, q⟩ => ?_⟩
      obtain ⟨u, y, hm, ru, hr⟩ := g.glo _ (lk_mem hv)
      exact ld_glob I (g.gl _ h2) hm ⟨y, H, I, ru, post_here si (hr F β) q⟩ (by have := (ba (ba h2).1).2; simpa using this)
    · cases h
  | c, .tup es, X, Wx, g, e, h => by
    simp only [ckE] at h
    split at h
    · refine (pe_tup (sndL _ es X Wx g _ h)).weak fun σ H Q ⟨F, β, Γ, S, s, en, q⟩ => ?_
      refine runL (orcE_mono T k cur) s en q (fun _ _ q => q) fun F1 β1 S1 H1 vs xs e1 s1 r1 ⟨z, q1⟩ => ⟨?_, fun p hp => ?_⟩
      · rw [← r1.len]; exact Nat.le_trans z (by decide)
      · obtain ⟨s2, sb⟩ := s1.lay hp (.tup xs)
        exact q1 _ _ _ _ ⟨e1.sub.trans sb, e1.pre⟩ s2 ⟨p, xs, rfl, SqT.of upd_same, VRs.mono sb (List.prefix_refl _) _ _ r1⟩
    · cases h
  | c, .lst es, X, Wx, g, e, h => by
    simp only [ckE] at h
    split at h
    · refine (pe_lst (sndL _ es X Wx g _ h)).weak fun σ H Q ⟨F, β, Γ, S, s, en, q⟩ => ?_
      refine runL (orcE_mono T k cur) s en q (fun _ _ q => q) fun F1 β1 S1 H1 vs xs e1 s1 r1 ⟨z, q1⟩ => ⟨?_, fun p hp => ?_⟩
      · rw [← r1.len]; exact Nat.le_trans z (by decide)
      · have s2 := s1.new hp (o := .lst vs) (u := .lst xs) ⟨xs, upd_same, VRs.mono (Same.refl _) (List.prefix_append _ _) _ _ r1⟩
        refine q1 _ _ _ _ ⟨e1.sub, e1.pre.trans (List.prefix_append _ _)⟩ s2 ⟨p, rfl, ?_⟩
        rw [← s1.len]; simp
    · cases h
  | c, .bin op a b, X, Wx, g, e, h => by
    simp only [ckE] at h
    split at h
    · obtain ⟨h, h3⟩ := ba h
      obtain ⟨h1, h2⟩ := ba h
      obtain ⟨r, ho, hs⟩ := bin_ok (X := X) (cA := cA) h1
      refine (pe_op ho (sndE _ a X Wx g _ h2) (sndE _ b X Wx g _ h3)).weak fun σ H Q ⟨F, β, Γ, S, s, en, q⟩ => ?_
      refine runE (orcE_mono T k cur) s en q (fun _ _ q => q) fun F1 β1 S1 H1 v x e1 s1 r1 q1 => ?_
      refine runE (orcE_mono T k cur) s1 (en.ext e1) q1 (postX_ext e1) fun F2 β2 S2 H2 u y e2 s2 r2 q2 => ?_
      exact hs F2 β2 S2 H2 v u x y Q s2 (r1.ext e2) r2 (wBin_mono (fun _ _ z => post_ext (e1.trans e2) z) q2)
    · cases h
  | c, .neg a, X, Wx, g, e, h => by
    simp only [ckE] at h
    split at h
    · refine (pe_un un_neg (sndE _ a X Wx g _ h)).weak fun σ H Q ⟨F, β, Γ, S, s, en, q⟩ => ?_
      refine runE (orcE_mono T k cur) s en q (fun _ _ q => q) fun F1 β1 S1 H1 v x e1 s1 r1 q1 => ?_
      exact neg_ok s1 r1 (wNeg_mono (fun _ _ z => post_ext e1 z) q1)
    · cases h
  | c, .cmp op a b, X, Wx, g, e, h => by
    simp only [ckE] at h
    split at h
    · obtain ⟨h, h4⟩ := ba h
      obtain ⟨h, h3⟩ := ba h
      obtain ⟨h1, h2⟩ := ba h
      obtain ⟨r, ho, hs⟩ := cmp_ok (X := X) (cA := cA) g.u65 h1
      refine (pe_cmpR ho (sndE _ a X Wx g _ h2) (sndE _ b X Wx g _ h3) (noSet_mark h4 _)).weak fun σ H Q ⟨F, β, Γ, S, s, en, q⟩ => ?_
      refine runE (orcE_mono T k cur) s en q (fun _ _ q => q) fun F1 β1 S1 H1 v x e1 s1 r1 q1 => ?_
      refine runE (orcE_mono T k cur) s1 (en.ext e1) q1 (postX_ext e1) fun F2 β2 S2 H2 u y e2 s2 r2 q2 => ?_
      exact hs F2 β2 S2 H2 v u x y Q s2 (r1.ext e2) r2 (wCmp_mono (fun _ _ z => post_ext (e1.trans e2) z) q2)
    · cases h
  | c, .isN a, X, Wx, g, e, h => by
    simp only [ckE] at h
    split at h
    · refine (pe_cmp (pc_isN (sndE _ a X Wx g _ h)) rfl).weak fun σ H Q ⟨F, β, Γ, S, s, en, q⟩ => ?_
      refine runE (orcE_mono T k cur) s en q (fun _ _ q => q) fun F1 β1 S1 H1 v x e1 s1 r1 q1 => ?_
      rw [isNon_ok r1]
      exact post_here (v := .bl _) s1 rfl (post_ext e1 q1)
    · cases h
  | c, .notN a, X, Wx, g, e, h => by
    simp only [ckE] at h
    split at h
    · refine (pe_cmp (pc_notN (sndE _ a X Wx g _ h)) rfl).weak fun σ H Q ⟨F, β, Γ, S, s, en, q⟩ => ?_
      refine runE (orcE_mono T k cur) s en q (fun _ _ q => q) fun F1 β1 S1 H1 v x e1 s1 r1 q1 => ?_
      rw [isNon_ok r1]
      exact post_here (v := .bl _) s1 rfl (post_ext e1 q1)
    · cases h
  | c, .chain op op' a b d, X, Wx, g, e, h => by
    simp only [ckE] at h
    split at h
    · obtain ⟨h, h6⟩ := ba h
      obtain ⟨h, h5⟩ := ba h
      obtain ⟨h, h4⟩ := ba h
      obtain ⟨h, h3⟩ := ba h
      obtain ⟨h1, h2⟩ := ba h
      obtain ⟨r, ho, hs⟩ := cmp_ok (X := X) (cA := cA) g.u65 h1
      obtain ⟨r', ho', hs'⟩ := cmp_ok (X := X) (cA := cA) g.u65 h2
      refine (pe_chain ho ho' (sndE _ a X Wx g _ h3) (sndE _ b X Wx g _ h4) (sndE _ d X Wx g _ h5) (noSet_mark h6 _)).weak fun σ H Q ⟨F, β, Γ, S, s, en, q⟩ => ?_
      refine runE (orcE_mono T k cur) s en q (fun _ _ q => q) fun F1 β1 S1 H1 v x e1 s1 r1 q1 => ?_
      refine runE (orcE_mono T k cur) s1 (en.ext e1) q1 (postX_ext e1) fun F2 β2 S2 H2 u y e2 s2 r2 q2 => ?_
      refine hs F2 β2 S2 H2 v u x y _ s2 (r1.ext e2) r2 (wCmp_mono (fun z S3 ⟨kk, ez, z3⟩ => ?_) q2)
      subst ez
      intro F3 β3 H3 zz e3 s3 rz
      cases rz
      refine ⟨kk, rfl, ?_⟩
      cases kk with
      | true =>
        refine runE (orcE_mono T k cur) s3 (en.ext (e1.trans (e2.trans e3))) z3 (postX_ext (e1.trans (e2.trans e3))) fun F4 β4 S4 H4 w y4 e4 s4 r4 q4 => ?_
        exact hs' F4 β4 S4 H4 u w y y4 Q s4 (r2.ext (e3.trans e4)) r4 (wCmp_mono (fun _ _ z => post_ext (e1.trans (e2.trans (e3.trans e4))) z) q4)
      | false => exact post_here (v := .bl _) s3 rfl (post_ext (e1.trans (e2.trans e3)) z3)
    · cases h
  | c, .chain3 op op' op'' a b d f, X, Wx, g, e, h => by
    simp only [ckE] at h
    split at h
    · obtain ⟨h, h8⟩ := ba h
      obtain ⟨h, h7⟩ := ba h
      obtain ⟨h, h6⟩ := ba h
      obtain ⟨h, h5⟩ := ba h
      obtain ⟨h, h4⟩ := ba h
      obtain ⟨h, h3⟩ := ba h
      obtain ⟨h1, h2⟩ := ba h
      obtain ⟨r, ho, hs⟩ := cmp_ok (X := X) (cA := cA) g.u65 h1
      obtain ⟨r', ho', hs'⟩ := cmp_ok (X := X) (cA := cA) g.u65 h2
      obtain ⟨r'', ho'', hs''⟩ := cmp_ok (X := X) (cA := cA) g.u65 h3
      refine (pe_chain3 ho ho' ho'' (sndE _ a X Wx g _ h4) (sndE _ b X Wx g _ h5) (sndE _ d X Wx g _ h6) (sndE _ f X Wx g _ h7) (noSet_mark h8 _)).weak fun σ H Q ⟨F, β, Γ, S, s, en, q⟩ => ?_
      refine runE (orcE_mono T k cur) s en q (fun _ _ q => q) fun F1 β1 S1 H1 v x e1 s1 r1 q1 => ?_
      refine runE (orcE_mono T k cur) s1 (en.ext e1) q1 (postX_ext e1) fun F2 β2 S2 H2 u y e2 s2 r2 q2 => ?_
      refine hs F2 β2 S2 H2 v u x y _ s2 (r1.ext e2) r2 (wCmp_mono (fun z S3 ⟨kk, ez, z3⟩ => ?_) q2)
      subst ez
      intro F3 β3 H3 zz e3 s3 rz
      cases rz
      refine ⟨kk, rfl, ?_⟩
      cases kk with
      | true =>
        refine runE (orcE_mono T k cur) s3 (en.ext (e1.trans (e2.trans e3))) z3 (postX_ext (e1.trans (e2.trans e3))) fun F4 β4 S4 H4 w y4 e4 s4 r4 q4 => ?_
        refine hs' F4 β4 S4 H4 u w y y4 _ s4 (r2.ext (e3.trans e4)) r4 (wCmp_mono (fun z S5 ⟨kk, ez, z5⟩ => ?_) q4)
        subst ez
        intro F5 β5 H5 zz e5 s5 rz
        cases rz
        refine ⟨kk, rfl, ?_⟩
        cases kk with
        | true =>
          refine runE (orcE_mono T k cur) s5 (en.ext (e1.trans (e2.trans (e3.trans (e4.trans e5))))) z5 (postX_ext (e1.trans (e2.trans (e3.trans (e4.trans e5))))) fun F6 β6 S6 H6 w6 y6 e6 s6 r6 q6 => ?_
          exact hs'' F6 β6 S6 H6 w w6 y4 y6 Q s6 (r4.ext (e5.trans e6)) r6 (wCmp_mono (fun _ _ z => post_ext (e1.trans (e2.trans (e3.trans (e4.trans (e5.trans e6))))) z) q6)
        | false => exact post_here (v := .bl _) s5 rfl (post_ext (e1.trans (e2.trans (e3.trans (e4.trans e5)))) z5)
      | false => exact post_here (v := .bl _) s3 rfl (post_ext (e1.trans (e2.trans e3)) z3)
    · cases h
  | c, .tst t, X, Wx, g, e, h => sndB _ t X Wx g e (by simpa only [ckE] using h)
  | c, .ite t a b, X, Wx, g, e, h => by
    simp only [ckE] at h
    split at h
    · obtain ⟨h, h3⟩ := ba h
      obtain ⟨h1, h2⟩ := ba h
      refine (pe_ifExp (sndT _ t X Wx g _ h1) (sndE _ a X Wx g _ h2) (sndE _ b X Wx g _ h3)).weak fun σ H Q ⟨F, β, Γ, S, s, en, q⟩ => ?_
      refine runT (orcE_mono T k cur) s en q (fun _ _ q => q) fun F1 β1 S1 H1 v e1 s1 q1 => ?_
      cases v with
      | true => exact runE (orcE_mono T k cur) s1 (en.ext e1) q1 (postX_ext e1) fun F2 β2 S2 H2 u y e2 s2 r2 q2 => post_here s2 r2 (post_ext (e1.trans e2) q2)
      | false => exact runE (orcE_mono T k cur) s1 (en.ext e1) q1 (postX_ext e1) fun F2 β2 S2 H2 u y e2 s2 r2 q2 => post_here s2 r2 (post_ext (e1.trans e2) q2)
    · cases h
  | c, .call f es, X, Wx, g, e, h => by
    simp only [ckE] at h
    split at h
    · rename_i x p e1 es' pos
      obtain ⟨h, hh⟩ := ba h
      have hh : c.hot = false := by simpa using hh
      obtain ⟨h, h4⟩ := ba h
      obtain ⟨h, h3⟩ := ba h
      obtain ⟨h1, h2⟩ := ba h
      have hx := of_decide_eq_true h1
      subst hx
      have hst : noStar e1 = true ∧ (backTo pos (starEach es' X.env)).any (·.1) = false := by
        cases es with
        | nil => simp only [ckL] at h3; cases h3
        | cons m ms =>
          simp only [ckL] at h3
          obtain ⟨h3, h5⟩ := ba h3
          exact ⟨(ba h3).2, any_star ms _ _ _ h5⟩
      obtain ⟨d, a, fd, hd, hm, hk, hb, hF⟩ := g.fn x (by simpa using h4)
      refine (pe_callS (E := WE Wx) hF ((g.room hh).mono (by omega)) (g.gl _ h2) hm hk hb (fun σ => passAt g.tk σ) (sndL _ es X Wx g _ h3) (by have := (ba (ba h2).1).2; simpa using this) (star_cons hst.1 _ _) hst.2).weak fun σ H Q ⟨F, β, Γ, S, s, en, q⟩ => ?_
      refine runL (orcE_mono T k cur) s en q (fun _ _ q => q) fun F1 β1 S1 H1 vs xs e1 s1 r1 q1 => ?_
      exact ⟨F1, β1, S1, vs, s1, r1, (orcE_mono T k cur).run _ _ _ _ _ _ _ (fun _ _ z => post_ext e1 z) (fun c' S' z => postX_ext e1 c' S' z) q1⟩
    · rename_i x p pos
      obtain ⟨h, hh⟩ := ba h
      have hh : c.hot = false := by simpa using hh
      obtain ⟨h, h4⟩ := ba h
      obtain ⟨h, h3⟩ := ba h
      obtain ⟨h1, h2⟩ := ba h
      have hx := of_decide_eq_true h1
      subst hx
      cases es with
      | cons m ms => cases h3
      | nil =>
        obtain ⟨d, a, fd, hd, hm, hk, hb, hF⟩ := g.fn x (by simpa using h4)
        refine (pe_callZ (E := WE Wx) hF ((g.room hh).mono (by omega)) (g.gl _ h2) hm hk hb (fun σ => passAt g.tk σ) (by have := (ba (ba h2).1).2; simpa using this)).weak fun σ H Q ⟨F, β, Γ, S, s, en, q⟩ => ?_
        exact ⟨F, β, S, [], s, rfl, q⟩
    · cases h
  | c, .len a, X, Wx, g, e, h => by
    simp only [ckE] at h
    split at h
    · obtain ⟨h, h4⟩ := ba h
      obtain ⟨h, h3⟩ := ba h
      obtain ⟨h1, h2⟩ := ba h
      have hx := of_decide_eq_true h1
      subst hx
      refine (pe_callB call_lenD (g.gl _ h2) (g.blt _ (by decide)) boot_len (pa_cons (sndE _ a X Wx g _ h3) pa_nil (star_cons h4 _ _)) (he := star_cons h4 _ _)).weak fun σ H Q ⟨F, β, Γ, S, s, en, q⟩ => ?_
      refine runE (orcE_mono T k cur) s en q (fun _ _ q => q) fun F1 β1 S1 H1 v x e1 s1 r1 q1 => ?_
      obtain ⟨n, l, q2⟩ := len_ok s1 r1 (wLen_mono (fun _ _ z => post_ext e1 z) q1)
      exact ⟨x, n, rfl, l, q2⟩
    · cases h
  | c, .abs a, X, Wx, g, e, h => by
    simp only [ckE] at h
    split at h
    · obtain ⟨h, h4⟩ := ba h
      obtain ⟨h, h3⟩ := ba h
      obtain ⟨h1, h2⟩ := ba h
      have hx := of_decide_eq_true h1
      subst hx
      refine (pe_callB call_abs (g.gl _ h2) (g.blt _ (by decide)) (by decide +kernel) (pa_cons (sndE _ a X Wx g _ h3) pa_nil (star_cons h4 _ _)) (he := star_cons h4 _ _)).weak fun σ H Q ⟨F, β, Γ, S, s, en, q⟩ => ?_
      refine runE (orcE_mono T k cur) s en q (fun _ _ q => q) fun F1 β1 S1 H1 v x e1 s1 r1 q1 => ?_
      obtain ⟨i, rfl, q2⟩ := abs_ok s1 r1 (wAbs_mono (fun _ _ z => post_ext e1 z) q1)
      exact ⟨i, rfl, q2⟩
    · cases h
  | c, .maxd a d, X, Wx, g, e, h => by
    simp only [ckE] at h
    split at h
    · rename_i x p a' y d' kp pos
      obtain ⟨h, hh⟩ := ba h
      have hh : c.hot = false := by simpa using hh
      obtain ⟨h, h6⟩ := ba h
      obtain ⟨h, h5⟩ := ba h
      obtain ⟨h, h4⟩ := ba h
      obtain ⟨h, h3⟩ := ba h
      obtain ⟨h1, h2⟩ := ba h
      have hx := of_decide_eq_true h1
      have hy := of_decide_eq_true h3
      subst hx hy
      refine (pe_maxD (g.calm hh) g.u65 (g.gl _ h2) (g.blt _ (by decide)) (sndE _ a X Wx g _ h4) (sndE _ d X Wx g _ h5) (star_cons h6 _ _)).weak fun σ H Q ⟨F, β, Γ, S, s, en, q⟩ => ?_
      refine runE (orcE_mono T k cur) s en q (fun _ _ q => q) fun F1 β1 S1 H1 v x e1 s1 r1 q1 => ?_
      refine runE (orcE_mono T k cur) s1 (en.ext e1) q1 (postX_ext e1) fun F2 β2 S2 H2 u z e2 s2 r2 ⟨xs, ds, k1, k2, k3, k4, k5, k6⟩ => ?_
      obtain ⟨b, ys, rfl, e3, qq⟩ := k1.ok s2 (r1.ext e2)
      refine ⟨b, ys, ds, rfl, SqL.of e3, DVs.dp s2 k2 qq, k3, k4, fun e => k5 e F2 β2 H2 z (e1.trans e2) s2 r2, fun y zs i w e hw hd => ?_⟩
      obtain ⟨w', hw', rw'⟩ := qq.at hw
      exact k6 y zs i w' e hw' hd F2 β2 H2 w (e1.trans e2) s2 rw'
    · cases h
  | c, .sortk a z, X, Wx, g, e, h => by
    simp only [ckE] at h
    split at h
    · rename_i x p a' y params w p1 n j p2 p3 sc p4 kp y2 b j2 p5 kp2 pos
      obtain ⟨h, hh⟩ := ba h
      have hh : c.hot = false := by simpa using hh
      obtain ⟨h, h10⟩ := ba h
      obtain ⟨h, h9⟩ := ba h
      obtain ⟨h, h8⟩ := ba h
      obtain ⟨h, h7⟩ := ba h
      obtain ⟨h, h6⟩ := ba h
      obtain ⟨h, h5⟩ := ba h
      obtain ⟨h, h4⟩ := ba h
      obtain ⟨h, h3⟩ := ba h
      obtain ⟨h1, h2⟩ := ba h
      have hx := of_decide_eq_true h1
      have hy := of_decide_eq_true h3
      have hy2 := of_decide_eq_true h4
      have hn := of_decide_eq_true h6
      have hb : b = true := h5
      subst hx hy hy2 hn hb
      obtain ⟨hq, cc, hcode, TB⟩ := g.lam (("<lambda>" : Str), z) (by simpa using h10)
      obtain ⟨e1, L, hd⟩ := lam1_ok h7
      obtain ⟨ap, e1⟩ := e1
      subst e1
      refine (pe_callBK (cr_sortK (q := z) (clos := cloFrom X.env.cells sc.names []) (p1 := p1) (p2 := p2) (p3 := p3) (j := j) (params := ⟨[], [⟨w, none, ap⟩], none, [], [], none, []⟩) (g.room hh) g.un L hd (fun _ _ _ _ => bind1)) (g.gl _ h2) (g.blt _ (by decide)) (by decide +kernel) (pa_cons (sndE _ a X Wx g _ h8) pa_nil (star_cons h9 _ _)) (pk_cons (pe_lambda TB hcode hq rfl (fun y hy e => by rw [L.own y hy] at e; cases e)) (pk_cons pe_bl pk_nil)) (he := by rw [star_cons h9]; rfl) (hpl := by rw [star_cons h9]; rfl)).weak fun σ H Q ⟨F, β, Γ, S, s, en, q⟩ => ?_
      refine runE (orcE_mono T k cur) s en q (fun _ _ q => q) fun F1 β1 S1 H1 v x e1 s1 r1 ⟨i, bs, k1, k2, k3, k4, k5, k6, k7⟩ => ?_
      refine ⟨s1.tabS k1, fun f c' pm ctv H2 tu nf hc => ?_⟩
      obtain ⟨F2, e2, s2⟩ := s1.tabUp k1 tu
      obtain ⟨s3, e3⟩ := s2.lay nf (LamO f (PySem.W.kla_obj "<lambda>" z _ _ sc (cloFrom X.env.cells sc.names []) pm c' ctv))
      have e4 : Ext F1 β1 _ β1 := e2.trans ⟨e3, List.prefix_refl _⟩
      obtain ⟨b, ys, rfl, hl, qq⟩ := k2.ok s3 (r1.ext e4)
      obtain ⟨cs, rfl, rfl, hcs⟩ := trip_of qq
      refine ⟨b, f, c', cs.map fun c => (c.1.2, c.2), pm, ctv, rfl, rfl, upd_same, (upd_ne (ne_of_none hc nf)).trans hc, SqL.of (by rw [List.map_map]; exact hl), ⟨fun u hu => ?_, by rw [List.map_map] at k4 ⊢; exact k4, by rw [List.map_map] at k5 ⊢; exact k5, fun u hu => ?_⟩, ?_⟩
      · obtain ⟨t, ht, rfl⟩ := List.mem_map.mp hu
        obtain ⟨kk, r, e, hd, htd⟩ := k3 _ (List.mem_map.mpr ⟨t, ht, rfl⟩)
        have rr := hcs t ht
        rw [show t.1.1 = _ from e] at rr
        obtain ⟨ad, zs, e5, st, y0, r0, rfl, ry, rs⟩ := rr
        exact ⟨ad, y0, r0, e5, SqT.mono s3.sub st, DV.dp s3 hd ry, htd⟩
      · obtain ⟨t, ht, rfl⟩ := List.mem_map.mp hu
        exact k6 _ (List.mem_map.mpr ⟨t, ht, rfl⟩)
      · have m1 := sort_map (fun c : (Va × V) × PyData => (c.1.2, c.2)) (fun _ => rfl) cs
        have m2 := sort_map (fun c : (Va × V) × PyData => (c.1.1, c.2)) (fun _ => rfl) cs
        rw [m1, List.map_map]
        rw [m2, List.map_map] at k7
        exact post_new s3 (trip_to fun t ht => hcs t (List.mem_mergeSort.mp ht)) (post_ext (e1.trans e4) k7)
    · cases h
  | c, .lrev a, X, Wx, g, e, h => by
    simp only [ckE] at h
    split at h
    · rename_i x p y p2 a' pos2 pos
      obtain ⟨h, hh⟩ := ba h
      have hh : c.hot = false := by simpa using hh
      obtain ⟨h, h6⟩ := ba h
      obtain ⟨h, h5⟩ := ba h
      obtain ⟨h, h4⟩ := ba h
      obtain ⟨h, h3⟩ := ba h
      obtain ⟨h1, h2⟩ := ba h
      have hx := of_decide_eq_true h1
      have hy := of_decide_eq_true h3
      subst hx hy
      refine (pe_listRev (g.calm hh) (g.gl _ h2) (g.blt _ (by decide)) (g.gl _ h4) (g.blt _ (by decide)) (sndE _ a X Wx g _ h5) (star_cons h6 _ _)).weak fun σ H Q ⟨F, β, Γ, S, s, en, q⟩ => ?_
      refine runE (orcE_mono T k cur) s en q (fun _ _ q => q) fun F1 β1 S1 H1 v x e1 s1 r1 ⟨xs, h1, q1⟩ => ?_
      rcases h1 with h1 | rfl
      · obtain ⟨b, ys, rfl, e2, qq⟩ := h1.ok s1 r1
        exact ⟨b, ys, rfl, .inl (SqL.of e2), post_new s1 qq.reverse (post_ext e1 q1)⟩
      · obtain ⟨b, ys, rfl, t2, qq⟩ := r1
        exact ⟨b, ys, rfl, .inr (SqT.mono s1.sub t2), post_new s1 qq.reverse (post_ext e1 q1)⟩
    · cases h
  | c, .isi a t, X, Wx, g, e, h => by
    simp only [ckE] at h
    split at h
    · obtain ⟨h, h6⟩ := ba h
      obtain ⟨h, h5⟩ := ba h
      obtain ⟨h, h4⟩ := ba h
      obtain ⟨h, h3⟩ := ba h
      obtain ⟨h1, h2⟩ := ba h
      have hx := of_decide_eq_true h1
      have hy := of_decide_eq_true h3
      subst hx hy
      have hty : ∀ p, PE X (.Name (tyN t) p) (tC (.ty (tyS t))) := fun p => pe_bltn (v := .ty (tyS t)) (u := .type (tyS t)) (g.gl _ h4) (g.blt _ (by cases t <;> decide)) (by cases t <;> decide +kernel) rfl (by cases t <;> decide) (by cases t <;> decide)
      refine (pe_callB call_isi (g.gl _ h2) (g.blt _ (by decide)) (by decide +kernel) (pa_cons (sndE _ a X Wx g _ h5) (pa_cons (hty _) pa_nil rfl) (star_cons h6 _ _)) (he := star_cons h6 _ _)).weak fun σ H Q ⟨F, β, Γ, S, s, en, q⟩ => ?_
      refine runE (orcE_mono T k cur) s en q (fun _ _ q => q) fun F1 β1 S1 H1 v x e1 s1 r1 ⟨b, q1, q2⟩ => ?_
      obtain ⟨tv, t1, t2⟩ := ty_ok s1 r1 q1
      exact ⟨x, _, tv, _, b, rfl, .ty _, t1, t2, post_here (v := .bl _) s1 rfl (post_ext e1 q2)⟩
    · cases h
  | c, .isE a z, X, Wx, g, e, h => by
    simp only [ckE] at h
    split at h
    · obtain ⟨h, h6⟩ := ba h
      obtain ⟨h, h5⟩ := ba h
      obtain ⟨h, h4⟩ := ba h
      obtain ⟨h, h3⟩ := ba h
      obtain ⟨h1, h2⟩ := ba h
      have hx := of_decide_eq_true h1
      have hy := (of_decide_eq_true h3).symm
      subst hx hy
      refine (pe_callB (call_isX (cA := cA) g.curok) (g.gl _ h2) (g.blt _ (by decide)) (by decide +kernel) (pa_cons (sndE _ a X Wx g _ h5) (pa_cons (cls_name (g.gl _ h4) (by have := (ba (ba h4).1).2; simpa using this) _) pa_nil rfl) (star_cons h6 _ _)) (he := star_cons h6 _ _)).weak fun σ H Q ⟨F, β, Γ, S, s, en, q⟩ => ?_
      refine runE (orcE_mono T k cur) s en q (fun _ _ q => q) fun F1 β1 S1 H1 v x e1 s1 r1 ⟨ad, hv, c', hc, b, hk, q2⟩ => ?_
      subst hv
      cases r1
      obtain ⟨w, cv, k1, k2, k3, k4, k5⟩ := g.xk _ (xk_mem hk)
      exact ⟨w, cv, k1, k2, ad, c', hc, w, cv, b, rfl, fun u ru => k1.eq ru, k4, k3, post_here (v := .bl _) s1 rfl (post_ext e1 q2)⟩
    · cases h
  | c, .isEt a zs, X, Wx, g, e, h => by
    simp only [ckE] at h
    split at h
    · obtain ⟨h, h6⟩ := ba h
      obtain ⟨h, h5⟩ := ba h
      obtain ⟨h, h7⟩ := ba h
      obtain ⟨h, h4⟩ := ba h
      obtain ⟨h1, h2⟩ := ba h
      obtain ⟨h7, h8⟩ := ba h7
      have hx := of_decide_eq_true h1
      subst hx
      refine (pe_callB (call_isXT (cA := cA) g.curok) (g.gl _ h2) (g.blt _ (by decide)) (by decide +kernel) (pa_cons (sndE _ a X Wx g _ h5) (pa_cons (pe_tup (cls_names (fun x hx => g.gl x hx) zs _ h4)) pa_nil rfl) (star_cons h6 _ _)) (he := star_cons h6 _ _)).weak fun σ H Q ⟨F, β, Γ, S, s, en, q⟩ => ?_
      refine runE (orcE_mono T k cur) s en q (fun _ _ q => q) fun F1 β1 S1 H1 v x e1 s1 r1 ⟨ad, hv, c', hc, b, hk, q2⟩ => ?_
      subst hv
      cases r1
      obtain ⟨vs, us, k1, k2, k3, k4⟩ := xks_ok (X := X) (cA := cA) g.xk hk
      refine ⟨vs, us, k1, by rw [clsL_len k1]; exact Nat.le_trans (of_decide_eq_true h7) (by decide), fun p hp => ?_⟩
      obtain ⟨s2, sb⟩ := s1.lay hp (.tup vs)
      exact ⟨ad, c', hc, p, vs, us, b, rfl, upd_same, k2, k3, k4 (of_decide_eq_true h8), q2 _ _ _ _ ⟨e1.sub.trans sb, e1.pre⟩ s2 rfl⟩
    · cases h
  | c, .isc a z, X, Wx, g, e, h => by
    simp only [ckE] at h
    split at h
    · obtain ⟨h, h6⟩ := ba h
      obtain ⟨h, h5⟩ := ba h
      obtain ⟨h, h4⟩ := ba h
      obtain ⟨h, h3⟩ := ba h
      obtain ⟨h1, h2⟩ := ba h
      have hx := of_decide_eq_true h1
      have hy := (of_decide_eq_true h3).symm
      subst hx hy
      have hcl : ∀ p, PE X (.Name z p) (fun σ H Q => ∃ C, X.mg z = some (.ref C) ∧ Q (.ref C) H) := fun p => ⟨fun pins s σ H Q I ⟨C, hm, q⟩ => ld_glob I (g.gl _ h4) hm ⟨.ref C, H, I, rfl, q⟩ (by have := (ba (ba h4).1).2; simpa using this)⟩
      refine (pe_callB call_isi (g.gl _ h2) (g.blt _ (by decide)) (by decide +kernel) (pa_cons (sndE _ a X Wx g _ h5) (pa_cons (hcl _) pa_nil rfl) (star_cons h6 _ _)) (he := star_cons h6 _ _)).weak fun σ H Q ⟨F, β, Γ, S, s, en, q⟩ => ?_
      refine runE (orcE_mono T k cur) s en q (fun _ _ q => q) fun F1 β1 S1 H1 v x e1 s1 r1 ⟨j, hv, ob, ho, b, hc, q2⟩ => ?_
      subst hv
      obtain ⟨cn, fs, rfl, hl⟩ := clsIs_ok hc
      obtain ⟨m1, ⟨i1, i2, i3, i4, i5⟩, m3⟩ := g.isa _ (isa_mem hl)
      obtain ⟨ad, rfl, ha⟩ := r1
      obtain ⟨b2, hb2, _, dx, ys, e2, _⟩ := s1.at ho
      rw [ha] at hb2
      cases hb2
      exact ⟨_, m1, _, _, _, _, b, rfl, .own _, .base (.ins e2 i1 i2 i3 i4 i5), m3, post_here (v := .bl _) s1 rfl (post_ext e1 q2)⟩
    · cases h
  | c, .sub a i, X, Wx, g, e, h => by
    simp only [ckE] at h
    split at h
    · obtain ⟨h, h3⟩ := ba h
      obtain ⟨h1, h2⟩ := ba h
      refine (pe_ix (((ix_list.or ix_tup).or ix_str).or (ix_dict (by have := g.u65; omega))) (sndE _ a X Wx g _ h1) (sndE _ i X Wx g _ h2) (noSlice_ix h3)).weak fun σ H Q ⟨F, β, Γ, S, s, en, q⟩ => ?_
      refine runE (orcE_mono T k cur) s en q (fun _ _ q => q) fun F1 β1 S1 H1 v x e1 s1 r1 q1 => ?_
      refine runE (orcE_mono T k cur) s1 (en.ext e1) q1 (postX_ext e1) fun F2 β2 S2 H2 u y e2 s2 r2 q2 => ?_
      exact sub_ok F2 β2 S2 H2 v u x y Q s2 (r1.ext e2) r2 (wSub_mono (fun _ _ z => post_ext (e1.trans e2) z) q2)
    · cases h
  | c, .slice a lo hi, X, Wx, g, e, h => by
    simp only [ckE] at h
    split at h
    · obtain ⟨h, h3⟩ := ba h
      obtain ⟨h1, h2⟩ := ba h
      refine (pe_slice ((sl_list.or sl_tupA).or sl_str) (sndE _ a X Wx g _ h1) (sndOe _ lo X Wx g _ h2) (sndOe _ hi X Wx g _ h3)).weak fun σ H Q ⟨F, β, Γ, S, s, en, q⟩ => ?_
      refine runE (orcE_mono T k cur) s en q (fun _ _ q => q) fun F1 β1 S1 H1 v x e1 s1 r1 q1 => ?_
      refine runO (orcE_mono T k cur) s1 (en.ext e1) q1 (postX_ext e1) fun F2 β2 S2 H2 l e2 s2 q2 => ?_
      refine runO (orcE_mono T k cur) s2 (en.ext (e1.trans e2)) q2 (postX_ext (e1.trans e2)) fun F3 β3 S3 H3 u e3 s3 q3 => ?_
      exact slice_ok s3 (r1.ext (e2.trans e3)) (wSlice_mono (fun _ _ z => post_ext (e1.trans (e2.trans e3)) z) q3)
    · cases h
  | c, .blt f es, X, Wx, g, e, h => by
    simp only [ckE] at h
    split at h
    · rename_i x p e1 es' pos
      obtain ⟨h, hh⟩ := ba h
      have hh : c.hot = false := by simpa using hh
      obtain ⟨h, h4⟩ := ba h
      obtain ⟨h, h3⟩ := ba h
      obtain ⟨h1, h2⟩ := ba h
      have hx := of_decide_eq_true h1
      subst hx
      have hst := ckL_first es e1 es' pos X.env h3
      obtain ⟨r, hr, hs⟩ := blt_ok (X := X) (cA := cA) (g.calm hh) g.u65 f
      refine (blt_call hr (g.gl _ h2) (g.blt _ (by cases f <;> decide)) (sndL _ es X Wx g _ h3) hst.1 hst.2).weak fun σ H Q ⟨F, β, Γ, S, s, en, q⟩ => ?_
      refine runL (orcE_mono T k cur) s en q (fun _ _ q => q) fun F1 β1 S1 H1 vs xs e1 s1 r1 q1 => ?_
      exact hs F1 β1 S1 H1 vs xs Q s1 r1 (wBlt_mono (fun _ _ z => post_ext e1 z) q1)
    · cases h
  | c, .mth m o es, X, Wx, g, e, h => by
    simp only [ckE] at h
    split at h
    · rename_i o' nm apos es' pos
      obtain ⟨h, h6⟩ := ba h
      obtain ⟨h, h5⟩ := ba h
      obtain ⟨h, h4⟩ := ba h
      obtain ⟨h, h3⟩ := ba h
      obtain ⟨h1, h2⟩ := ba h
      have hx := of_decide_eq_true h1
      subst hx
      obtain ⟨r, hr, hs⟩ := mth_ok (X := X) (cA := cA) g.u65 m
      cases es' with
      | nil =>
        refine (mth_call0 hr (sndE _ o X Wx g _ h2) h5 h4 (of_decide_eq_true h6).symm).weak fun σ H Q ⟨F, β, Γ, S, s, en, q⟩ => ?_
        refine runE (orcE_mono T k cur) s en q (fun _ _ q => q) fun F1 β1 S1 H1 v x e1 s1 r1 ⟨z, q1⟩ => ?_
        cases es with
        | nil => exact ⟨mOk_ty s1 r1 z, hs F1 β1 S1 H1 v x [] [] Q s1 r1 rfl (wMth_mono (fun _ _ z => post_ext e1 z) q1)⟩
        | cons _ _ => simp only [ckL] at h3; cases h3
      | cons e0 es' =>
        have hst := ckL_first es e0 es' pos X.env h3
        refine (mth_call hr (sndE _ o X Wx g _ h2) (sndL _ es X Wx g _ h3) h5 h4 (of_decide_eq_true h6) (any_star es _ _ _ h3) hst.1 hst.2).weak fun σ H Q ⟨F, β, Γ, S, s, en, q⟩ => ?_
        refine runE (orcE_mono T k cur) s en q (fun _ _ q => q) fun F1 β1 S1 H1 v x e1 s1 r1 ⟨z, q1⟩ => ?_
        refine ⟨mOk_ty s1 r1 z, ?_⟩
        refine runL (orcE_mono T k cur) s1 (en.ext e1) q1 (postX_ext e1) fun F2 β2 S2 H2 vs xs e2 s2 r2 q2 => ?_
        exact hs F2 β2 S2 H2 v x vs xs Q s2 (r1.ext e2) r2 (wMth_mono (fun _ _ z => post_ext (e1.trans e2) z) q2)
    · cases h
  | c, .comp own elt tg it cond, X, Wx, g, e, h => by
    simp only [ckE] at h
    split at h
    · rename_i elt' tg' it' ifs scope pos
      obtain ⟨h, h6⟩ := ba h
      obtain ⟨h, h5⟩ := ba h
      obtain ⟨h, h4⟩ := ba h
      obtain ⟨h, h3⟩ := ba h
      obtain ⟨h1, h2⟩ := ba h
      obtain ⟨hh, h1⟩ := ba h1
      have hh : c.hot = false := by simpa using hh
      have hblk : BlkOk X.N X.env.scope scope (ownA c.N own) := by
        rw [g.hN, g.sc]; exact blkOk_by h1
      refine (pe_lc (g := liftG X.K cA (tgS tg) fun S v Γ => bindT S tg v Γ) (tt := liftT X.K cA (fun _ _ _ _ => False) (fun Γ S P _ => WT0 (orcE T k cur) cond Γ S P)) (te := liftE X.K cA (fun _ _ _ _ => False) (W (orcE T k cur) elt)) (g.calm hh) g.nd (sndI _ it X Wx g _ _ h2) hblk (fun s H C cl fp => sndG tg _ (g.inn hblk.kind s H C cl fp hh).hN g.nd (g.inn hblk.kind s H C cl fp hh).loc (g.calm hh) _ h3)
        (fun s H C cl fp => sndT0 _ cond _ _ (g.inn hblk.kind s H C cl fp hh) _ h5) (fun s H C cl fp => sndE _ elt _ _ (g.inn hblk.kind s H C cl fp hh) _ h6) (ckI_fold h2 X.env)).weak fun σ H Q ⟨F, β, Γ, S, s, en, q⟩ => ?_
      refine runI (orcE_mono T k cur) s en q (fun _ _ q => q) fun F1 β1 S1 H1 J xs G e1 s1 i1 q1 => ?_
      rw [ownA_ix]
      exact comp_ok (orcE_mono T k cur) e1 s1 (en.ext e1) i1 q1 (fun i hi => by have := List.all_eq_true.mp h4 i hi; simpa using this)
    · cases h
  | c, .lck m, X, Wx, g, e, h => by
    simp only [ckE] at h
    refine (pe_lock (sndE _ m X Wx g _ h)).weak fun σ H Q ⟨F, β, Γ, S, s, en, kk, kvs, hk, q⟩ => ?_
    obtain ⟨a, ha, fa, ys, e2, qq⟩ := s.at hk
    refine ⟨a, .dK ys, e2, trivial, fun od => ?_⟩
    obtain ⟨s1, sb⟩ := s.lock (od := od) (lt_of_get hk) ha fa qq (by rw [e2]; simp)
    have x1 : Ext F β (upd F a (.frz od (.dK ys))) β := ⟨sb, List.prefix_refl _⟩
    refine runE (orcE_mono T k cur) s1 (en.ext x1) q (fun _ _ z => z.elim) fun F2 β2 S2 H2 v x e3 s2 r2 ⟨h3, q3⟩ => ?_
    have f2 := e3.sub a _ upd_same
    obtain ⟨s3, kf⟩ := s2.unlock h3 (pre_get e3.pre ha) f2
    have x3 : Ext F β (dropF F2 a) β2 := ext_drop fa (x1.trans e3)
    exact ⟨s2.sub a _ f2, q3 _ _ _ _ x3 s3 (VR.unf kf _ _ r2)⟩
  | c, .fld o f, X, Wx, g, e, h => by
    simp only [ckE] at h
    split at h
    · obtain ⟨h, h3⟩ := ba h
      obtain ⟨h1, h2⟩ := ba h
      have hx := of_decide_eq_true h1
      subst hx
      refine (pe_fld (sndE _ o X Wx g _ h2) (plainB_ok h3 _ _ _)).weak fun σ H Q ⟨F, β, Γ, S, s, en, q⟩ => ?_
      refine runE (orcE_mono T k cur) s en q (fun _ _ q => q) fun F1 β1 S1 H1 v x e1 s1 r1 ⟨n, ev, ob, h0, u, hu, q1⟩ => ?_
      subst ev
      obtain ⟨c', fs, rfl, hn, hl⟩ := fldO_ok hu
      obtain ⟨hc, hn⟩ := g.noat _ (noat_mem hn)
      obtain ⟨a, dx, ys, rfl, _, _, e2, qq⟩ := ins_ok s1 h0 r1
      obtain ⟨y, hy, ry⟩ := qq.get.1 u hl
      exact ⟨a, _, dx, ys, y, rfl, e2, hc, hn, hy, post_here s1 ry (post_ext e1 q1)⟩
    · cases h
  | c, .evens a, X, Wx, g, e, h => by
    simp only [ckE] at h
    split at h
    · obtain ⟨h1, h2⟩ := ba h
      have ej := of_decide_eq_true h2
      subst ej
      refine (pe_evens (sndE _ a X Wx g _ h1)).weak fun σ H Q ⟨F, β, Γ, S, s, en, q⟩ => ?_
      refine runE (orcE_mono T k cur) s en q (fun _ _ q => q) fun F1 β1 S1 H1 v x e1 s1 r1 ⟨xs, hl, q1⟩ => ?_
      obtain ⟨b, ys, rfl, hb, qq⟩ := hl.ok s1 r1
      exact ⟨b, ys, rfl, SqL.of hb, post_new s1 qq.evens (post_ext e1 q1)⟩
    · cases h
  | c, .callv i es, X, Wx, g, e, h => by
    simp only [ckE] at h
    split at h
    · rename_i x p es' pos
      obtain ⟨h, hh⟩ := ba h
      have hh : c.hot = false := by simpa using hh
      obtain ⟨h, h3⟩ := ba h
      obtain ⟨h1, h2⟩ := ba h
      refine ⟨fun pins s σ H Q I ⟨F, β, Γ, S, si, en, z, ws, hz, hm, q⟩ => ?_⟩
      obtain ⟨x0, ex, e1, eC, rw⟩ := en.get hz
      subst e1
      obtain ⟨hF, hclo⟩ := g.clo z hm
      have hd1 : (x == ("__debug__" : Str)) = false := by have := (ba (ba h2).1).2; simpa using this
      have hd2 : (x == ("__classdict__" : Str)) = false := by have := (ba h2).2; simpa using this
      refine wpAny_Call_Name_kw (thn ((pe_var (pos := p) (i := i) (by rw [g.hN]; exact of_decide_eq_true h1) (g.vis _ h2) hd1 hd2).run pins s σ H (fun v H1 => v = .ref z.f ∧ H1 = H) I ⟨.ref z.f, ex, rfl, rfl⟩) fun u s1 ⟨v, H1, I1, r1, q1⟩ => ?_)
      obtain ⟨ev, eH⟩ := q1
      subst ev
      rw [eH] at I1
      obtain rfl : u = Value.ref z.f := r1
      have fnAt : ∀ {H2 : Hp} {s2 : Shared}, Inv X pins σ H2 s2 → PySem.W.FnAt z.f s2.heap := fun I2 => by
        obtain ⟨oc, od, fd, sl, ho⟩ := hF
        exact ⟨oc, od, fd, sl, I2.bk _ _ ho⟩
      have run : ∀ (us : List Value) (s2 : Shared) (vs : List Va) (xs : List V) (F1 : Hp) (β1 : List Addr) (S1 : Sto) (H2 : Hp), Inv X pins σ H2 s2 → Ext F β F1 β1 → Sim X.K cA F1 β1 S1 H2 → VRs X.K F1 β1 vs xs → Vals xs us → (orcE T k cur).run z.id (vs ++ ws) S1 (post X.K cA F β Q) (postX X.K cA F β Wx σ) →
          wpAny (model X.prog X.w) X.A (PySem.call (.ref z.f) us) (EP X pins σ Q) X.xe s2 := by
        intro us s2 vs xs F1 β1 S1 H2 I2 e2 s3 r2 rv q2
        refine wpAny_call (codeAny_mono (hclo X.A X.stack s2 H2 us xs Q (WE Wx σ) ((g.room hh).mono (by omega)) I2.env0 (s3.sub _ _ (e2.sub _ _ eC)) rv ⟨F1, β1, S1, vs ++ ws, s3, VRs.append r2 (rw.ext e2), ?_⟩) fun r s' hq => ?_)
        · exact (orcE_mono T k cur).run _ _ _ _ _ _ _ (fun _ _ z => post_ext e2 z) (fun c' S' z => postX_ext e2 c' S' z) q2
        · cases r with
          | error e => exact passAt g.tk σ pins H2 s2 e s' I2 hq
          | ok fl =>
            cases fl with
            | ret u => exact I2.after hq
            | next => exact False.elim hq
            | brk => exact False.elim hq
            | cont => exact False.elim hq
      cases es' with
      | nil =>
        refine PySem.W.callWith_F0 (first := []) (fnAt I1) ?_
        cases es with
        | nil => exact run [] s1 [] [] F β S H I1 (Ext.refl _ _) si rfl .nil q
        | cons _ _ => simp only [ckL] at h3; cases h3
      | cons e0 es' =>
        have hst := ckL_first es e0 es' pos X.env h3
        refine PySem.W.callWith_F (first := []) (fnAt I1) (thn ((sndL _ es X Wx g _ h3).run pos pins s1 σ H (fun xs H2 => ∃ F1 β1 S1 vs, Ext F β F1 β1 ∧ Sim X.K cA F1 β1 S1 H2 ∧ VRs X.K F1 β1 vs xs ∧ (orcE T k cur).run z.id (vs ++ ws) S1 (post X.K cA F β Q) (postX X.K cA F β Wx σ)) I1 ?_) fun us s2 ⟨xs, H2, I2, rv, F1, β1, S1, vs, e2, s3, r2, q2⟩ => ⟨fnAt I2, run us s2 vs xs F1 β1 S1 H2 I2 e2 s3 r2 rv q2⟩) hst.1 hst.2
        exact runL (orcE_mono T k cur) si en q (fun _ _ q => q) fun F1 β1 S1 H1 vs xs e1 s1 r1 q1 => ⟨F1, β1, S1, vs, e1, s1, r1, q1⟩
    · cases h
  | c, .fmt a, X, Wx, g, e, h => by
    have key : ∀ (a' : Expr) (cv : Int) (p : Pos), (ckE c a a' && decide (cv = -1)) = true → PE X (.FormattedValue a' cv none p) (liftE X.K cA Wx (W (orcE T k cur) (.fmt a))) := fun a' cv p h => by
      obtain ⟨h1, h2⟩ := ba h
      have h2 := of_decide_eq_true h2
      subst h2
      refine (pe_fmt (sndE _ a X Wx g _ h1)).weak fun σ H Q ⟨F, β, Γ, S, s, en, q⟩ => ?_
      refine runE (orcE_mono T _ cur) s en q (fun _ _ q => q) fun F1 β1 S1 H1 v x e1 s1 r1 q1 => ?_
      unfold wFmt at q1
      split at q1
      · cases r1
        exact .inl ⟨_, rfl, q1.1, q1.2 F1 β1 H1 _ e1 s1 rfl⟩
      · cases r1
        exact .inr ⟨_, rfl, q1.1, q1.2 F1 β1 H1 _ e1 s1 rfl⟩
      · exact q1.elim
    simp only [ckE] at h
    split at h
    · exact key _ _ _ h
    · exact pe_joined1 (key _ _ _ h)
    · cases h
  | c, .js es, X, Wx, g, e, h => by
    simp only [ckE] at h
    split at h
    · obtain ⟨ts, pj, hts⟩ := sndJ c es X Wx g _ h
      refine (pe_joined pj).weak fun σ H Q ⟨F, β, Γ, S, s, en, q⟩ => ?_
      exact hts Str.empty σ H (fun out H1 => Q (.str out) H1) ⟨F, β, Γ, S, s, en, WJ_mono (orcE_mono T k cur) es Str.empty Γ S _ _ _ _ (fun v S1 p F' β' H' x e' s' r out ex => by subst ex; exact p F' β' H' _ e' s' r) (fun _ _ z => z) q⟩
    · cases h
  | c, .callm f es m as, X, Wx, g, e, h => by
    simp only [ckE] at h
    split at h
    · rename_i x p es' pos
      obtain ⟨h, hla⟩ := ba h
      obtain ⟨h, hh⟩ := ba h
      have hh : c.hot = false := by simpa using hh
      obtain ⟨h, h5⟩ := ba h
      obtain ⟨h, h4⟩ := ba h
      obtain ⟨h, h3⟩ := ba h
      obtain ⟨h1, h2⟩ := ba h
      have hx := of_decide_eq_true h1
      subst hx
      split at hla
      · rename_i y p2 as' pos2 hgl
        obtain ⟨hla, l4⟩ := ba hla
        obtain ⟨hla, l3⟩ := ba hla
        obtain ⟨l1, l2⟩ := ba hla
        have hy := of_decide_eq_true l1
        subst hy
        have ee : es'.dropLast ++ [.Call (.Name y p2) as' [] pos2] = es' := drop_last hgl
        generalize es'.dropLast = e0 at h3 ee
        subst ee
        obtain ⟨e1, er, ef, c1, c2⟩ := ckL_first_last (last := .Call (.Name y p2) as' [] pos2) rfl es e0 pos X.env h3
        cases as' with
        | nil => cases l4
        | cons a1 ar =>
          have hst : noStar a1 = true ∧ (backTo pos2 (starEach ar X.env)).any (·.1) = false := by
            cases as with
            | nil => simp only [ckL] at l3; cases l3
            | cons m ms =>
              simp only [ckL] at l3
              obtain ⟨l3, l5⟩ := ba l3
              exact ⟨(ba l3).2, any_star ms _ _ _ l5⟩
          refine ⟨fun pins s σ H Q I ⟨F, β, Γ, S, si, en, ⟨id, q, js, n⟩, ht, w⟩ => ?_⟩
          obtain ⟨d, a, fd, hd, hm, hk, hb, hF⟩ := g.fn x (by simpa using h4)
          obtain ⟨_, a2, _, _, hm2, hk2, _, _⟩ := g.fn y (by simpa using h5)
          rw [ef]
          refine wpAny_Call_Name_kw (ld_glob I (g.gl _ h2) hm (PySem.W.callWith_K (h₀ := X.base) I.ok.mod.kin hk ?_ c1 c2) (by have := (ba (ba h2).1).2; simpa using this))
          rw [← ef]
          refine sndLm c es X Wx g _ h3 _ rfl pos pins s σ H _ F β Γ S _ _ I si en w (fun _ _ q => q) fun F1 β1 S1 H1 vs xs us s1 x1 s3 r1 I1 rv w2 => ?_
          refine wpAny_Call_Name_kw (ld_glob I1 (g.gl _ l2) hm2 (PySem.W.callWith_K (h₀ := X.base) I1.ok.mod.kin hk2 ?_ (star_cons hst.1 _ _) hst.2) (by have := (ba (ba l2).1).2; simpa using this))
          refine thn ((sndL c as X Wx g _ l3).run pos2 pins s1 σ H1 (fun ys H2 => ∃ F2 β2 S2 zs, Ext F1 β1 F2 β2 ∧ Sim X.K cA F2 β2 S2 H2 ∧ VRs X.K F2 β2 zs ys ∧ zs.length = n ∧ hasTab S2 q ∧ ∃ ws, capsA (zs.map some) js = some ws ∧ ∀ z : Clo, z.id = id → (orcE T k cur).runC z x (vs ++ [.fnv z ws]) S2 (post X.K cA F β Q) (postX X.K cA F β Wx σ)) I1 ?_) fun us2 s2 ⟨ys, H2, I2, rv2, F2, β2, S2, zs, x2, s4, r2, hn, hT, ws, hws, hz⟩ => ⟨I2.kIn, ?_⟩
          · exact runL (orcE_mono T k cur) s3 (en.ext x1) w2 (postX_ext x1) fun F2 β2 S2 H2 zs ys x2 s4 r2 ⟨q1, q2, ws, q3, q4⟩ => ⟨F2, β2, S2, zs, x2, s4, r2, q1, q2, ws, q3, q4⟩
          · obtain ⟨xw, rw, exw⟩ := caps_ok (env_of r2) hws
            refine mk_hand g h5 ht hh I2 s4 hT rv2 (r2.len.symm.trans hn) exw hm2 fun z H3 s5 F3 base ez ex I3 x3 s6 hc e0 hup => ⟨I3.kIn, ?_⟩
            obtain ⟨d', a', fd', hd', hm', _, hb', hF'⟩ := hup.1 x (by simpa using h4)
            rw [hm] at hm'; cases hm'
            have x5 := (x1.trans x2).trans x3
            exact run_hand hF' ((g.room hh).mono (by omega)) hb' (passAt g.tk σ) I3 e0 (us := us ++ [Value.ref z.f]) (xs := xs ++ [V.ref z.f]) (rv.append (Paired.cons (show L2.RelV (V.ref z.f) (Value.ref z.f) from rfl) .nil)) ⟨F3, β2, S2, vs ++ [.fnv z ws], s6, VRs.append (r1.ext (x2.trans x3)) (VRs.one (v := .fnv z ws) ⟨rfl, hc, by rw [ex]; exact rw.ext x3⟩), (orcE_mono T k cur).runC _ _ _ _ _ _ _ _ (fun _ _ z => post_ext x5 z) (fun c' S' z => postX_ext x5 c' S' z) (hz z ez)⟩
      · cases hla
    · cases h
  | c, .calld f es, X, Wx, g, e, h => by
    simp only [ckE] at h
    split at h
    · rename_i x p es' pos
      obtain ⟨h, hh⟩ := ba h
      have hh : c.hot = false := by simpa using hh
      obtain ⟨h, h4⟩ := ba h
      obtain ⟨h, h3⟩ := ba h
      obtain ⟨h1, h2⟩ := ba h
      have hx := of_decide_eq_true h1
      subst hx
      refine ⟨fun pins s σ H Q I ⟨F, β, Γ, S, si, en, ⟨y, hy⟩, w⟩ => ?_⟩
      obtain ⟨d, a, fd, hd, hm, hk, ⟨⟨ds, hds, hb⟩, _⟩, hF⟩ := g.dfl (x, y) (lk_mem hy)
      cases es' with
      | nil => cases h4
      | cons e1 er =>
        have hst : noStar e1 = true ∧ (backTo pos (starEach er X.env)).any (·.1) = false := by
          cases es with
          | nil => simp only [ckL] at h3; cases h3
          | cons m ms =>
            simp only [ckL] at h3
            obtain ⟨h3, h5⟩ := ba h3
            exact ⟨(ba h3).2, any_star ms _ _ _ h5⟩
        refine ((pe_callSD (E := WE Wx) hF ((g.room hh).mono (by omega)) (g.gl _ h2) hm hk hb hds (fun σ => passAt g.tk σ) (sndL _ es X Wx g _ h3) (by have := (ba (ba h2).1).2; simpa using this) (star_cons hst.1 _ _) hst.2).weak fun σ H Q (q : liftE X.K cA Wx (fun Γ S P E => WL (orcE T k cur) es Γ S (fun vs S1 => (orcE T k cur).run x (vs ++ [.non]) S1 P E) E) σ H Q) => ?_).run pins s σ H Q I ⟨F, β, Γ, S, si, en, w⟩
        obtain ⟨F, β, Γ, S, s, en, q⟩ := q
        refine runL (orcE_mono T k cur) s en q (fun _ _ q => q) fun F1 β1 S1 H1 vs xs e1 s1 r1 q1 => ?_
        exact ⟨F1, β1, S1, vs ++ [.non], s1, VRs.append r1 (VRs.one (v := .non) rfl), (orcE_mono T k cur).run _ _ _ _ _ _ _ (fun _ _ z => post_ext e1 z) (fun c' S' z => postX_ext e1 c' S' z) q1⟩
    · cases h
  | c, .callk f es y m, X, Wx, g, e, h => by
    simp only [ckE] at h
    split at h
    · rename_i x p es' z e2 kpos pos
      obtain ⟨h, hh⟩ := ba h
      have hh : c.hot = false := by simpa using hh
      obtain ⟨h, h6⟩ := ba h
      obtain ⟨h, h5⟩ := ba h
      obtain ⟨h, h4⟩ := ba h
      obtain ⟨h, h3⟩ := ba h
      obtain ⟨h1, h2⟩ := ba h
      have hx := of_decide_eq_true h1
      have hz := of_decide_eq_true h2
      subst hx hz
      refine ⟨fun pins s σ H Q I ⟨F, β, Γ, S, si, en, hy, w⟩ => ?_⟩
      obtain ⟨d, a, fd, hd, hm, hk, ⟨_, hb⟩, hF⟩ := g.dfl (x, z) (lk_mem hy)
      cases es' with
      | nil => cases h6
      | cons e1 er =>
        have hst : noStar e1 = true ∧ (backTo pos (starEach er X.env)).any (·.1) = false := by
          cases es with
          | nil => simp only [ckL] at h4; cases h4
          | cons m ms =>
            simp only [ckL] at h4
            obtain ⟨h4, h7⟩ := ba h4
            exact ⟨(ba h4).2, any_star ms _ _ _ h7⟩
        refine ((pe_callKx (E := WE Wx) hF ((g.room hh).mono (by omega)) (g.gl _ h3) hm hk hb (fun σ => passAt g.tk σ) (sndL _ es X Wx g _ h4) (sndE _ m X Wx g _ h5) (by have := (ba (ba h3).1).2; simpa using this) (star_cons hst.1 _ _) hst.2).weak fun σ H Q (q : liftE X.K cA Wx (fun Γ S P E => WL (orcE T k cur) es Γ S (fun vs S1 => W (orcE T k cur) m Γ S1 (fun v S2 => (orcE T k cur).run x (vs ++ [v]) S2 P E) E) E) σ H Q) => ?_).run pins s σ H Q I ⟨F, β, Γ, S, si, en, w⟩
        obtain ⟨F, β, Γ, S, s, en, q⟩ := q
        refine runL (orcE_mono T k cur) s en q (fun _ _ q => q) fun F1 β1 S1 H1 vs xs e1 s1 r1 q1 => ?_
        refine runE (orcE_mono T k cur) s1 (en.ext e1) q1 (postX_ext e1) fun F2 β2 S2 H2 v y e2 s2 r2 q2 => ?_
        exact ⟨F2, β2, S2, vs ++ [v], s2, VRs.append (r1.ext e2) (VRs.one r2), (orcE_mono T k cur).run _ _ _ _ _ _ _ (fun _ _ z => post_ext (e1.trans e2) z) (fun c' S' z => postX_ext (e1.trans e2) c' S' z) q2⟩
    · cases h
  | c, .callc f es id q js, X, Wx, g, e, h => by
    simp only [ckE] at h
    split at h
    · rename_i x p es' pos
      obtain ⟨h, hlm⟩ := ba h
      obtain ⟨h, hh⟩ := ba h
      have hh : c.hot = false := by simpa using hh
      obtain ⟨h, h4⟩ := ba h
      obtain ⟨h, h3⟩ := ba h
      obtain ⟨h1, h2⟩ := ba h
      have hx := of_decide_eq_true h1
      subst hx
      obtain ⟨e1, er, rfl, c1, c2⟩ := ckLc_first es es' pos X.env h3
      refine ⟨fun pins s σ H Q I ⟨F, β, Γ, S, si, en, ws, hws, w⟩ => ?_⟩
      obtain ⟨xw, rw, exw⟩ := caps_ok en hws
      obtain ⟨d, a, fd, hd, hm, hk, hb, hF⟩ := g.fn x (by simpa using h4)
      refine wpAny_Call_Name_kw (ld_glob I (g.gl _ h2) hm (PySem.W.callWith_K (h₀ := X.base) I.ok.mod.kin hk ?_ c1 c2) (by have := (ba (ba h2).1).2; simpa using this))
      refine sndLc c id js es X Wx g _ h3 pos pins s σ H _ F β Γ S _ _ I si en w (fun _ _ q => q) fun params body scope lpos hck F1 β1 S1 H1 vs xs us s1 e1 s3 r1 I1 rv ⟨ht, hz⟩ => ?_
      refine lam_hand g hck hlm I1 s3 ht exw fun z H2 s2 F2 base ez ex I2 e2 s4 hc e0 hup _ => ⟨I2.kIn, ?_⟩
      obtain ⟨d', a', fd', hd', hm', _, hb', hF'⟩ := hup.1 x (by simpa using h4)
      rw [hm] at hm'; cases hm'
      exact run_hand hF' ((g.room hh).mono (by omega)) hb' (passAt g.tk σ) I2 e0 (us := us ++ [Value.ref z.f]) (xs := xs ++ [V.ref z.f]) (rv.append (Paired.cons (show L2.RelV (V.ref z.f) (Value.ref z.f) from rfl) .nil)) ⟨F2, β1, S1, vs ++ [.fnv z ws], s4, VRs.append (r1.ext e2) (VRs.one (v := .fnv z ws) ⟨rfl, hc, by rw [ex]; exact rw.ext (e1.trans e2)⟩), (orcE_mono T k cur).runC _ _ _ _ _ _ _ _ (fun _ _ z => post_ext (e1.trans e2) z) (fun c' S' z => postX_ext (e1.trans e2) c' S' z) (hz z ez)⟩
    · cases h
  | c, .mcallc o m es id q js, X, Wx, g, e, h => by
    simp only [ckE] at h
    split at h
    · rename_i o' nm apos es' pos
      obtain ⟨h, hlm⟩ := ba h
      obtain ⟨h, hh⟩ := ba h
      have hh : c.hot = false := by simpa using hh
      obtain ⟨h, h6⟩ := ba h
      obtain ⟨h, h5⟩ := ba h
      obtain ⟨h, h4⟩ := ba h
      obtain ⟨h, h3⟩ := ba h
      obtain ⟨h1, h2⟩ := ba h
      have hx := of_decide_eq_true h1
      subst hx
      obtain ⟨e1, er, rfl, c1, c2⟩ := ckLc_first es es' pos X.env h3
      refine ⟨fun pins s σ H Q I ⟨F, β, Γ, S, si, en, ws, hws, w⟩ => ?_⟩
      obtain ⟨xw, rw, exw⟩ := caps_ok en hws
      refine PySem.W.methodCall_KW (pl := _) (thn ((sndE c o X Wx g _ h2).run pins s σ H (fun x H1 => ∃ F1 β1 S1 v, Ext F β F1 β1 ∧ Sim X.K cA F1 β1 S1 H1 ∧ VR X.K F1 β1 v x ∧ ∃ n, v = .loc n ∧ ∃ ob, S1[n]? = some ob ∧ ∃ key, mkey (orcE T k cur) nm ob = some key ∧ WL (orcE T k cur) es Γ S1 (fun vs S2 => hasTab S2 q ∧ ∀ z : Clo, z.id = id → (orcE T k cur).runC z key (v :: vs ++ [.fnv z ws]) S2 (post X.K cA F β Q) (postX X.K cA F β Wx σ)) (postX X.K cA F β Wx σ)) I ?_) fun w0 s1 ⟨y, H1, I1, ry, F1, β1, S1, v, e1', s3, r1, n, ev, ob, h0, ky, hk, q1⟩ => ?_) (mcall_eq h4 h5 (few_ok (by rw [c1]; simpa [backTo] using c2) (of_decide_eq_true h6)))
      · exact runE (orcE_mono T k cur) si en w (fun _ _ q => q) fun F1 β1 S1 H1 v x e1 s1 r1 ⟨n, ev, ob, h0, ky, hk, q1⟩ => ⟨F1, β1, S1, v, e1, s1, r1, n, ev, ob, h0, ky, hk, q1⟩
      · subst ev
        obtain ⟨c', fs, rfl, hn, hl⟩ := mkey_ok hk
        obtain ⟨hc, d, fa, fd, hd, hM, hB, hF⟩ := g.meth _ (meth_mem hl)
        obtain ⟨a, dx, ys, rfl, tt, _, e2, qq⟩ := ins_ok s3 h0 r1
        cases ry
        refine getmeth_ok I1 e2 hc hM (qq.get.2 hn) (PySem.W.callWith_K (first := [.ref a]) (h₀ := X.base) I.ok.mod.kin hM.kp ?_ c1 c2)
        refine sndLc c id js es X Wx g _ h3 pos pins s1 σ H1 _ F1 β1 Γ S1 _ _ I1 s3 (en.ext e1') q1 (postX_ext e1') fun params body scope lpos hck F2 β2 S2 H2 vs xs us s2 e3 s4 r2 I2 rv ⟨ht, hz⟩ => ?_
        refine lam_hand g hck hlm I2 s4 ht exw fun z H3 s5 F3 base ez ex I3 e4 s6 hc3 e0 hup _ => ⟨I3.kIn, ?_⟩
        obtain ⟨_, d', a', fd', hd', hM', hb', hF'⟩ := hup.2 _ (meth_mem hl)
        have ea : a' = fa := by
          have := hM'.at_.symm.trans hM.at_
          simpa using this
        subst ea
        have e5 := (e1'.trans e3).trans e4
        exact run_hand hF' ((g.room hh).mono (by omega)) hb' (passAt g.tk σ) I3 e0 (us := Value.ref a :: (us ++ [Value.ref z.f])) (xs := V.ref a :: (xs ++ [V.ref z.f])) (Paired.cons (show L2.RelV (V.ref a) (Value.ref a) from rfl) (rv.append (Paired.cons (show L2.RelV (V.ref z.f) (Value.ref z.f) from rfl) .nil))) ⟨F3, β2, S2, .loc n :: (vs ++ [.fnv z ws]), s6, VRs.mk (v := .loc n) ⟨a, rfl, pre_get e3.pre tt⟩ (VRs.append (r2.ext e4) (VRs.one (v := .fnv z ws) ⟨rfl, hc3, by rw [ex]; exact rw.ext e5⟩)), (orcE_mono T k cur).runC _ _ _ _ _ _ _ _ (fun _ _ z => post_ext e5 z) (fun c' S' z => postX_ext e5 c' S' z) (show (orcE T k cur).runC z ky (Va.loc n :: (vs ++ [Va.fnv z ws])) S2 _ _ from hz z ez)⟩
    · cases h
  | c, .mcall o m es, X, Wx, g, e, h => by
    simp only [ckE] at h
    split at h
    · rename_i o' nm ap es' pos
      obtain ⟨h, hh⟩ := ba h
      have hh : c.hot = false := by simpa using hh
      obtain ⟨h, h6⟩ := ba h
      obtain ⟨h, h5⟩ := ba h
      obtain ⟨h, h4⟩ := ba h
      obtain ⟨h, h3⟩ := ba h
      obtain ⟨h1, h2⟩ := ba h
      have hx := of_decide_eq_true h1
      subst hx
      have key : ∀ (t : TA), (∀ {σ : St} {F : Hp} {β : List Addr} {Γ : Env} {S : Sto} {H : Hp} {R : PL} {E0 : PX} {Q1 : List V → Hp → Prop}, Sim X.K cA F β S H → EnvR X.K F β Γ σ → WL (orcE T k cur) es Γ S R E0 → (∀ c S, E0 c S → postX X.K cA F β Wx σ c S) →
          (∀ F' β' S1 H1 v x, Ext F β F' β' → Sim X.K cA F' β' S1 H1 → VRs X.K F' β' v x → R v S1 → Q1 x H1) → t σ H Q1) → ∀ σ H Q, liftE X.K cA Wx (W (orcE T k cur) (.mcall o nm es)) σ H Q →
          tMethD X (L2.CX X.prog X.w) (2 * k) (WE Wx) nm (liftE X.K cA Wx (W (orcE T k cur) o)) t σ H Q := by
        rintro t ht σ H Q ⟨F, β, Γ, S, s, en, q⟩
        refine runE (orcE_mono T k cur) s en q (fun _ _ q => q) fun F1 β1 S1 H1 v x e1 s1 r1 ⟨n, ev, ob, h0, ky, hk, q1⟩ => ?_
        subst ev
        obtain ⟨c', fs, rfl, hn, hl⟩ := mkey_ok hk
        obtain ⟨hc, d, fa, fd, hd, hM, hB, hF⟩ := g.meth _ (meth_mem hl)
        obtain ⟨a, dx, ys, rfl, tt, _, e2, qq⟩ := ins_ok s1 h0 r1
        refine ⟨a, _, dx, ys, fa, fd, d.ps, _, rfl, e2, qq.get.2 hn, hc, hM, hB, hF, ?_⟩
        refine ht s1 (en.ext e1) q1 (postX_ext e1) fun F2 β2 S2 H2 vs xs e2 s2 r2 q2 => ?_
        exact ⟨F2, β2, S2, .loc n :: vs, s2, VRs.mk (v := .loc n) ⟨a, rfl, pre_get e2.pre tt⟩ r2, (orcE_mono T k cur).run _ _ _ _ _ _ _ (fun _ _ z => post_ext (e1.trans e2) z) (fun c' S' z => postX_ext (e1.trans e2) c' S' z) q2⟩
      cases es' with
      | nil =>
        refine (pe_mcall0 (E := WE Wx) ((g.room hh).mono (by omega)) (fun σ => passAt g.tk σ) h4 h5 (sndE _ o X Wx g _ h2)).weak (key _ ?_)
        intro σ F β Γ S H R E0 Q1 s en w hE hh
        cases es with
        | nil => exact hh F β S H [] [] (Ext.refl _ _) s rfl w
        | cons _ _ => simp only [ckL] at h3; cases h3
      | cons e0 es' =>
        have hst := ckL_first es e0 es' pos X.env h3
        exact (pe_mcall (E := WE Wx) ((g.room hh).mono (by omega)) (fun σ => passAt g.tk σ) h4 h5 (of_decide_eq_true h6) (any_star es _ _ _ h3) (sndE _ o X Wx g _ h2) (sndL _ es X Wx g _ h3) hst.1 hst.2).weak (key _ fun s en w hE hh => runL (orcE_mono T k cur) s en w hE hh)
    · cases h
  | c, .make x es, X, Wx, g, e, h => by
    simp only [ckE] at h
    split at h
    · rename_i y p es' pos
      obtain ⟨h, hh⟩ := ba h
      have hh : c.hot = false := by simpa using hh
      obtain ⟨h, h3⟩ := ba h
      obtain ⟨h1, h2⟩ := ba h
      have hx := of_decide_eq_true h1
      subst hx
      have hdb : (y == ("__debug__" : Str)) = false := by have := (ba (ba h2).1).2; simpa using this
      cases hi : T.init y with
      | none =>
        refine ⟨fun pins s σ H Q I ⟨F, β, Γ, S, si, en, ky, e1, q⟩ => ?_⟩
        rw [show (orcE T k cur).init y = T.init y from rfl, hi] at e1
        cases e1
      | some oo =>
        obtain ⟨hm, kp, hh⟩ := g.init _ (lk_mem hi)
        cases oo with
        | none =>
          refine ⟨fun pins s σ H Q I ⟨F, β, Γ, S, si, en, ky, e1, q⟩ => ?_⟩
          rw [show (orcE T k cur).init y = T.init y from rfl, hi] at e1
          cases e1
        | some ky =>
          obtain ⟨d, fa, fd, hd, M, hB, hF⟩ := hh
          have fin : ∀ (σ : St) (Q : VK) {F : Hp} {β : List Addr} {S : Sto} {H : Hp} {vs : List Va} {xs : List V}, Sim X.K cA F β S H → VRs X.K F β vs xs →
              call T k ky (.loc S.length :: vs) (S ++ [.ins y []]) (fun v S2 => v = .non ∧ post X.K cA F β Q (.loc S.length) S2) (postX X.K cA F β Wx σ) → spMk (cA y) (spI X.K cA (orc T k) ky) xs H Q (WE Wx σ) := by
            intro σ Q F β S H vs xs s r w a dx ha hdx ne
            obtain ⟨F2, e2, s2⟩ := new_ins s y ha hdx ne
            have hat : (β ++ [a])[S.length]? = some a := by rw [← s.len]; simp
            refine ⟨F2, β ++ [a], _, .loc S.length :: vs, s2, VRs.mk (v := .loc S.length) ⟨a, rfl, hat⟩ (r.ext e2), (orcE_mono T k cur).run _ _ _ _ _ _ _ (fun v S2 z => ?_) (fun c' S' z => postX_ext e2 c' S' z) w⟩
            intro F3 β3 H3 u e3 s3 r3
            obtain ⟨z1, z2⟩ := z
            subst z1
            exact ⟨r3, z2 F3 β3 H3 _ (e2.trans e3) s3 ⟨a, rfl, pre_get e3.pre hat⟩⟩
          cases es' with
          | nil =>
            refine (pe_makeS0 (E := WE Wx) M hF (g.room hh) (g.gl _ h2) hm hB (fun σ => passAt g.tk σ) hdb).weak fun σ H Q ⟨F, β, Γ, S, s, en, ky', e1, q⟩ => ?_
            rw [show (orcE T k cur).init y = T.init y from rfl, hi] at e1
            cases e1
            cases es with
            | nil => exact fin σ Q s (show VRs X.K F β [] [] from rfl) q
            | cons _ _ => simp only [ckL] at h3; cases h3
          | cons e0 es' =>
            have hst := ckL_first es e0 es' pos X.env h3
            refine (pe_makeS (E := WE Wx) M hF (g.room hh) (g.gl _ h2) hm hB (fun σ => passAt g.tk σ) (sndL _ es X Wx g _ h3) hdb hst.1 hst.2).weak fun σ H Q ⟨F, β, Γ, S, s, en, ky', e1, q⟩ => ?_
            rw [show (orcE T k cur).init y = T.init y from rfl, hi] at e1
            cases e1
            refine runL (orcE_mono T k cur) s en q (fun _ _ q => q) fun F1 β1 S1 H1 vs xs e1 s1 r1 q1 => ?_
            exact fin σ Q s1 r1 ((orcE_mono T k cur).run _ _ _ _ _ _ _ (fun v S2 z => ⟨z.1, post_ext e1 z.2⟩) (fun c' S' z => postX_ext e1 c' S' z) q1)
    · cases h
  | c, .make0 x, X, Wx, g, e, h => by
    simp only [ckE] at h
    split at h
    · rename_i y p pos
      obtain ⟨h, hh⟩ := ba h
      have hh : c.hot = false := by simpa using hh
      obtain ⟨h1, h2⟩ := ba h
      have hx := of_decide_eq_true h1
      subst hx
      have hdb : (y == ("__debug__" : Str)) = false := by have := (ba (ba h2).1).2; simpa using this
      cases hi : T.init y with
      | none =>
        refine ⟨fun pins s σ H Q I ⟨F, β, Γ, S, si, en, e1, q⟩ => ?_⟩
        rw [show (orcE T k cur).init y = T.init y from rfl, hi] at e1
        cases e1
      | some oo =>
        obtain ⟨hm, kp, hh⟩ := g.init _ (lk_mem hi)
        cases oo with
        | some ky =>
          refine ⟨fun pins s σ H Q I ⟨F, β, Γ, S, si, en, e1, q⟩ => ?_⟩
          rw [show (orcE T k cur).init y = T.init y from rfl, hi] at e1
          cases e1
        | none =>
          obtain ⟨h5, h6, h7⟩ := hh
          refine (pe_makeO kp h5 h6 h7 (g.gl _ h2) hm hdb).weak fun σ H Q ⟨F, β, Γ, S, s, en, e1, q⟩ a dx ha hdx ne => ?_
          obtain ⟨F2, e2, s2⟩ := new_ins s y ha hdx ne
          exact q F2 _ _ _ e2 s2 ⟨a, rfl, by rw [← s.len]; simp⟩
    · cases h
  | c, .dsp es, X, Wx, g, e, h => by
    simp only [ckE] at h
    split at h
    · rename_i ks vs pos
      obtain ⟨h1, h2⟩ := ba h
      have h15 := of_decide_eq_true h2
      match es, ks, vs, h1 with
      | .nil, [], [], _ =>
        exact pe_dnewK.weak fun σ H Q ⟨F, β, Γ, S, s, en, kvs, e1, e2, e3, q⟩ => by
          cases e1
          have e4 : (S ++ [Ob.dct []]).set S.length (.dct (mergeA [] [])) = S ++ [.dct []] := by
            rw [List.set_append_right _ _ (Nat.le_refl _), Nat.sub_self]; rfl
          rw [e4] at q
          exact post_dct s (show VRk X.K F β [] [] from rfl) q
      | .nil, [], _ :: _, h1 => simp [ckP] at h1
      | .nil, _ :: _, _, h1 => simp [ckP] at h1
      | .cons m1 r1, ks, vs, h1 =>
        obtain ⟨trs, hp, hsnd⟩ := sndP _ (.cons m1 r1) X Wx g ks vs pos h1
        obtain ⟨z1, z2⟩ := ckP_len (.cons m1 r1) ks vs h1
        have z3 : ks ≠ [] := by
          rintro rfl
          cases r1 <;> simp [ckP] at h1
        refine (pe_disp hp z1 z2 z3 h15).weak fun σ H Q ⟨F, β, Γ, S, s, en, q⟩ a ha => ?_
        have s2 := s.new ha (o := .dct []) (u := .dK []) ⟨[], upd_same, rfl⟩
        have e2 : Ext F β F (β ++ [a]) := ⟨Same.refl _, List.prefix_append _ _⟩
        have hat : (β ++ [a])[S.length]? = some a := by rw [← s.len]; simp
        refine hsnd s2 (en.ext e2) q (fun c' S' z => postX_ext e2 c' S' z) fun F3 β3 S3 H3 ws ps e3 s3 rp ⟨kvs, hk, hl, hd, q3⟩ => ?_
        obtain ⟨kys, k1, k2⟩ := rp kvs hk
        have k3 := k2.len
        obtain ⟨a2, ys2, ea2, ta2, _, ed2, q5⟩ := dct_ok s3 hd (x := .ref a) ⟨a, rfl, pre_get e3.pre hat⟩
        cases ea2
        have e5 : ys2 = [] := q5
        subst e5
        refine ⟨ed2, kys, k1, by omega, ?_⟩
        exact q3 F3 β3 _ _ (e2.trans e3) (put_dct s3 hd ta2 (k2.merge (show VRk X.K F3 β3 [] [] from rfl))) ⟨a, rfl, pre_get e3.pre hat⟩
    · cases h
  | c, .get1 o m, X, Wx, g, e, h => by
    simp only [ckE] at h
    split at h
    · obtain ⟨h, h6⟩ := ba h
      obtain ⟨h, h5⟩ := ba h
      obtain ⟨h, h4⟩ := ba h
      obtain ⟨h, h3⟩ := ba h
      obtain ⟨h1, h2⟩ := ba h
      have hx := of_decide_eq_true h1
      subst hx
      refine (pe_dget1 (by have := g.u65; omega) (sndE _ o X Wx g _ h2) (sndE _ m X Wx g _ h3) (m1_ok h5 h6 h4)).weak fun σ H Q ⟨F, β, Γ, S, s, en, q⟩ => ?_
      refine runE (orcE_mono T k cur) s en q (fun _ _ q => q) fun F1 β1 S1 H1 v x e1 s1 r1 ⟨⟨kvs0, hd0⟩, q1⟩ => ?_
      obtain ⟨a, ys, rfl, ed, _⟩ := hd0.ok s1 r1
      refine ⟨a, rfl, .inl ⟨ys, Rd.of ed⟩, ?_⟩
      refine runE (orcE_mono T k cur) s1 (en.ext e1) q1 (postX_ext e1) fun F2 β2 S2 H2 u y e2 s2 r2 ⟨kvs, hd, kk, hk, q2⟩ => ?_
      obtain ⟨a', ys', ea, ed', qq⟩ := hd.ok s2 (r1.ext e2)
      cases ea
      obtain ⟨v1, v2⟩ := qq.val kk
      refine ⟨valV ys' kk, by rw [kV_keyV hk r2]; exact .k ed', ?_⟩
      cases hg : dget kvs kk with
      | none => rw [v2 hg]; rw [hg] at q2; exact post_here (v := .non) s2 rfl (post_ext (e1.trans e2) q2)
      | some z => obtain ⟨w, e5, rw'⟩ := v1 z hg; rw [e5]; rw [hg] at q2; exact post_here s2 rw' (post_ext (e1.trans e2) q2)
    · cases h
  | c, .get2 o m d, X, Wx, g, e, h => by
    simp only [ckE] at h
    split at h
    · obtain ⟨h, h8⟩ := ba h
      obtain ⟨h, h7⟩ := ba h
      obtain ⟨h, h6⟩ := ba h
      obtain ⟨h, h5⟩ := ba h
      obtain ⟨h, h4⟩ := ba h
      obtain ⟨h, h3⟩ := ba h
      obtain ⟨h1, h2⟩ := ba h
      have hx := of_decide_eq_true h1
      subst hx
      refine (pe_dget2 (by have := g.u65; omega) (sndE _ o X Wx g _ h2) (sndE _ m X Wx g _ h3) (sndE _ d X Wx g _ h7) (m2_ok h5 h6 h8 h4)).weak fun σ H Q ⟨F, β, Γ, S, s, en, q⟩ => ?_
      refine runE (orcE_mono T k cur) s en q (fun _ _ q => q) fun F1 β1 S1 H1 v x e1 s1 r1 ⟨⟨kvs0, hd0⟩, q1⟩ => ?_
      obtain ⟨a, ys, rfl, ed, _⟩ := hd0.ok s1 r1
      refine ⟨a, rfl, .inl ⟨ys, Rd.of ed⟩, ?_⟩
      refine runE (orcE_mono T k cur) s1 (en.ext e1) q1 (postX_ext e1) fun F2 β2 S2 H2 u y e2 s2 r2 q2 => ?_
      refine runE (orcE_mono T k cur) s2 (en.ext (e1.trans e2)) q2 (postX_ext (e1.trans e2)) fun F3 β3 S3 H3 w z e3 s3 r3 ⟨kvs, hd, kk, hk, q3⟩ => ?_
      obtain ⟨a', ys', ea, ed', qq⟩ := hd.ok s3 (r1.ext (e2.trans e3))
      cases ea
      obtain ⟨v1, v2⟩ := qq.val kk
      refine ⟨valV ys' kk, by rw [kV_keyV hk (r2.ext e3)]; exact .k ed', ?_⟩
      cases hg : dget kvs kk with
      | none => rw [v2 hg]; rw [hg] at q3; exact post_here s3 r3 (post_ext (e1.trans (e2.trans e3)) q3)
      | some z => obtain ⟨w, e5, rw'⟩ := v1 z hg; rw [e5]; rw [hg] at q3; exact post_here s3 rw' (post_ext (e1.trans (e2.trans e3)) q3)
    · cases h
  | c, .gget x m d, X, Wx, g, e, h => by
    simp only [ckE] at h
    split at h
    · obtain ⟨h, h9⟩ := ba h
      obtain ⟨h, h8⟩ := ba h
      obtain ⟨h, h7⟩ := ba h
      obtain ⟨h, h6⟩ := ba h
      obtain ⟨h, h5⟩ := ba h
      obtain ⟨h, h4⟩ := ba h
      obtain ⟨h, h3⟩ := ba h
      obtain ⟨h1, h2⟩ := ba h
      have hx := of_decide_eq_true h1
      subst hx
      have hy := of_decide_eq_true h2
      subst hy
      refine (pe_kget2 (g.gl _ h3) (by have := (ba (ba h3).1).2; simpa using this) (sndE _ m X Wx g _ h4) (sndE _ d X Wx g _ h8) (m2_ok h6 h7 h9 h5)).weak fun σ H Q ⟨F, β, Γ, S, s, en, l, hl, q⟩ => ?_
      obtain ⟨A, es, n, e1, D, hq⟩ := g.gdc _ (lk_mem hl)
      refine ⟨A, es, n, e1, D, ?_⟩
      refine runE (orcE_mono T k cur) s en q (fun _ _ q => q) fun F1 β1 S1 H1 v x e1 s1 r1 q1 => ?_
      refine runE (orcE_mono T k cur) s1 (en.ext e1) q1 (postX_ext e1) fun F2 β2 S2 H2 u y e2 s2 r2 ⟨w, ew, o, ho, q2⟩ => ?_
      subst ew
      obtain ⟨r, hr1, hr2⟩ := hq _ (lk_mem ho)
      refine ⟨w, r, r1, hr1, ?_⟩
      cases o with
      | none => exact .inl ⟨hr2, post_here s2 r2 (post_ext (e1.trans e2) q2)⟩
      | some z =>
        obtain ⟨u', y', e5, rv, hvr⟩ := hr2
        exact .inr ⟨u', y', e5, rv, post_here s2 (hvr _ _) (post_ext (e1.trans e2) q2)⟩
    · cases h
  | c, .dpop1 o m, X, Wx, g, e, h => by
    simp only [ckE] at h
    split at h
    · obtain ⟨h, h6⟩ := ba h
      obtain ⟨h, h5⟩ := ba h
      obtain ⟨h, h4⟩ := ba h
      obtain ⟨h, h3⟩ := ba h
      obtain ⟨h1, h2⟩ := ba h
      have hx := of_decide_eq_true h1
      subst hx
      refine (pe_dpop1 (sndE _ o X Wx g _ h2) (sndE _ m X Wx g _ h3) (m1_ok h5 h6 h4)).weak fun σ H Q ⟨F, β, Γ, S, s, en, q⟩ => ?_
      refine runE (orcE_mono T k cur) s en q (fun _ _ q => q) fun F1 β1 S1 H1 v x e1 s1 r1 ⟨⟨kvs0, hd0⟩, q1⟩ => ?_
      obtain ⟨a, ys, rfl, ed, _⟩ := hd0.ok s1 r1
      refine ⟨a, rfl, .inl ⟨ys, Rd.of ed⟩, ?_⟩
      refine runE (orcE_mono T k cur) s1 (en.ext e1) q1 (postX_ext e1) fun F2 β2 S2 H2 u y e2 s2 r2 ⟨n, en', kvs, hn, kk, hk, w, hw, q2⟩ => ?_
      subst en'
      obtain ⟨a', ys', ea, ta, _, ed', qq⟩ := dct_ok s2 hn (r1.ext e2)
      cases ea
      obtain ⟨z, hz, rz⟩ := (qq.val kk).1 w hw
      exact ⟨ys', kk, z, ed', kV_keyV hk r2, hz, post_here (put_dct s2 hn ta qq.drop) rz (post_ext (e1.trans e2) q2)⟩
    · cases h
  | c, .dpop2 o m d, X, Wx, g, e, h => by
    simp only [ckE] at h
    split at h
    · obtain ⟨h, h8⟩ := ba h
      obtain ⟨h, h7⟩ := ba h
      obtain ⟨h, h6⟩ := ba h
      obtain ⟨h, h5⟩ := ba h
      obtain ⟨h, h4⟩ := ba h
      obtain ⟨h, h3⟩ := ba h
      obtain ⟨h1, h2⟩ := ba h
      have hx := of_decide_eq_true h1
      subst hx
      refine (pe_dpop2 (sndE _ o X Wx g _ h2) (sndE _ m X Wx g _ h3) (sndE _ d X Wx g _ h7) (m2_ok h5 h6 h8 h4)).weak fun σ H Q ⟨F, β, Γ, S, s, en, q⟩ => ?_
      refine runE (orcE_mono T k cur) s en q (fun _ _ q => q) fun F1 β1 S1 H1 v x e1 s1 r1 ⟨⟨kvs0, hd0⟩, q1⟩ => ?_
      obtain ⟨a, ys, rfl, ed, _⟩ := hd0.ok s1 r1
      refine ⟨a, rfl, .inl ⟨ys, Rd.of ed⟩, ?_⟩
      refine runE (orcE_mono T k cur) s1 (en.ext e1) q1 (postX_ext e1) fun F2 β2 S2 H2 u y e2 s2 r2 q2 => ?_
      refine runE (orcE_mono T k cur) s2 (en.ext (e1.trans e2)) q2 (postX_ext (e1.trans e2)) fun F3 β3 S3 H3 w z e3 s3 r3 ⟨n, en', kvs, hn, kk, hk, q3⟩ => ?_
      subst en'
      obtain ⟨a', ys', ea, ta, _, ed', qq⟩ := dct_ok s3 hn (r1.ext (e2.trans e3))
      cases ea
      refine ⟨ys', kk, ed', kV_keyV hk (r2.ext e3), fun z' hz => ?_, fun hz => ?_⟩
      · rcases q3 with ⟨w', hw, q3⟩ | ⟨hw, q3⟩
        · obtain ⟨z2, hz2, rz⟩ := (qq.val kk).1 w' hw
          rw [hz2] at hz
          cases hz
          exact post_here (put_dct s3 hn ta qq.drop) rz (post_ext (e1.trans (e2.trans e3)) q3)
        · rw [(qq.val kk).2 hw] at hz; cases hz
      · rcases q3 with ⟨w', hw, q3⟩ | ⟨hw, q3⟩
        · obtain ⟨z2, hz2, rz⟩ := (qq.val kk).1 w' hw
          rw [hz2] at hz
          cases hz
        · exact post_here s3 r3 (post_ext (e1.trans (e2.trans e3)) q3)
    · cases h
theorem sndP : ∀ (c : Ctx) (m : Exs) (X : Cx) (Wx : WX), Gd c cA T k cur Wx X → ∀ (ks : List (Option Expr)) (vs : List Expr) (pos : Pos), ckP c m ks vs = true → ∃ trs, PPs X pos ks vs trs ∧ ∀ {σ : St} {F : Hp} {β : List Addr} {Γ : Env} {S : Sto} {H : Hp} {R : PL} {E0 : PX} {Q1 : List (V × V) → Hp → Prop}, Sim X.K cA F β S H → EnvR X.K F β Γ σ → WL (orcE T k cur) m Γ S R E0 → (∀ c S, E0 c S → postX X.K cA F β Wx σ c S) →
    (∀ F' β' S1 H1 ws ps, Ext F β F' β' → Sim X.K cA F' β' S1 H1 → (∀ kvs, pairsV ws = some kvs → ∃ kys : List (Key × V), ps = kys.map (fun kv => (kV kv.1, kv.2)) ∧ VRk X.K F' β' kvs kys) → R ws S1 → Q1 ps H1) → tPairs trs σ H Q1
  | c, .nil, X, Wx, g, ks, vs, pos, h => by
    match ks, vs, h with
    | [], [], _ => exact ⟨[], pps_nil, fun {σ F β Γ S H R E0 Q1} s en w hE hh => hh F β S H [] [] (Ext.refl _ _) s (fun kvs e => by cases e; exact ⟨[], rfl, rfl⟩) w⟩
    | [], _ :: _, h => simp [ckP] at h
    | _ :: _, _, h => simp [ckP] at h
  | c, .cons m1 .nil, X, Wx, g, ks, vs, pos, h => by simp [ckP] at h
  | c, .cons m1 (.cons m2 r), X, Wx, g, ks, vs, pos, h => by
    match ks, vs, h with
    | some k' :: ks, v' :: vs, h =>
      have h := show (ckE c m1 k' && ckE c m2 v' && ckP c r ks vs) = true from h
      obtain ⟨h, h3⟩ := ba h
      obtain ⟨h1, h2⟩ := ba h
      obtain ⟨trs, hp, ih⟩ := sndP _ r X Wx g ks vs pos h3
      refine ⟨_, pps_cons (sndE _ m1 X Wx g _ h1) (sndE _ m2 X Wx g _ h2) hp, fun {σ F β Γ S H R E0 Q1} s en w hE hh => ?_⟩
      refine runE (orcE_mono T k cur) s en w hE fun F1 β1 S1 H1 v x e1 s1 r1 q1 => ?_
      refine runE (orcE_mono T k cur) s1 (en.ext e1) q1 (fun c' S' z => postX_ext e1 c' S' (hE c' S' z)) fun F2 β2 S2 H2 u y e2 s2 r2 q2 => ?_
      refine ih s2 (en.ext (e1.trans e2)) q2 (fun c' S' z => postX_ext (e1.trans e2) c' S' (hE c' S' z)) fun F3 β3 S3 H3 ws ps e3 s3 rp q3 => ?_
      refine hh F3 β3 S3 H3 (v :: u :: ws) ((x, y) :: ps) (e1.trans (e2.trans e3)) s3 (fun kvs hk => ?_) q3
      unfold pairsV at hk
      split at hk <;> first | cases hk | skip
      rename_i k0 r0 hk1 hk2
      obtain ⟨kys, e4, r4⟩ := rp _ hk2
      refine ⟨(k0, y) :: kys, ?_, ⟨y, kys, rfl, r2.ext e3, r4⟩⟩
      rw [e4, kV_keyV hk1 r1]; rfl
    | [], _, h => simp [ckP] at h
    | none :: _, _, h => simp [ckP] at h
    | some _ :: _, [], h => simp [ckP] at h
theorem sndOe : ∀ (c : Ctx) (m : Oe) (X : Cx) (Wx : WX), Gd c cA T k cur Wx X → ∀ (e : Option Expr), ckO c m e = true → PO X e (liftO X.K cA Wx (WOe (orcE T k cur) m))
  | c, .none, X, Wx, g, e, h => by
    simp only [ckO] at h
    split at h
    · exact po_none.weak fun σ H Q ⟨F, β, Γ, S, s, en, q⟩ => q F β H (Ext.refl _ _) s
    · cases h
  | c, .some m, X, Wx, g, e, h => by
    simp only [ckO] at h
    split at h
    · refine (po_some (sndE _ m X Wx g _ h)).weak fun σ H Q ⟨F, β, Γ, S, s, en, q⟩ => ?_
      refine runE (orcE_mono T k cur) s en q (fun _ _ q => q) fun F1 β1 S1 H1 v x e1 s1 r1 ⟨i, ev, q1⟩ => ?_
      subst ev
      cases r1
      exact ⟨i, rfl, q1 F1 β1 H1 e1 s1⟩
    · cases h
theorem sndI : ∀ (c : Ctx) (m : It) (X : Cx) (Wx : WX), Gd c cA T k cur Wx X → ∀ (tg e : Expr), ckI c m tg e = true → PI X tg e (liftI X.K cA Wx (WI (orcE T k cur) m))
  | c, .seq m, X, Wx, g, tg, e, h => by
    simp only [ckI] at h
    obtain ⟨h1, h2⟩ := ba h
    refine (pi_seqA (sndE _ m X Wx g _ h1)).weak fun σ H Q ⟨F, β, Γ, S, s, en, q⟩ => ?_
    refine runE (orcE_mono T k cur) s en q (fun _ _ q => q) fun F1 β1 S1 H1 v x e1 s1 r1 q1 => ?_
    obtain ⟨xs, G, hh, p⟩ := wSeq_ok s1 r1 q1
    rcases hh with ⟨a, ys, z1, z2, z3⟩ | ⟨a, ys, z1, z2, z3⟩ | ⟨a, z1, z3⟩
    · exact .inl ⟨a, ys, z1, z2, p F1 β1 H1 _ e1 s1 z3⟩
    · exact .inr (.inl ⟨a, ys, z1, z2, p F1 β1 H1 _ e1 s1 z3⟩)
    · exact .inr (.inr ⟨a, z1, p F1 β1 H1 _ e1 s1 z3⟩)
  | c, .range1 m, X, Wx, g, tg, e, h => by
    simp only [ckI] at h
    split at h
    · obtain ⟨h, h4⟩ := ba h
      obtain ⟨h, h3⟩ := ba h
      obtain ⟨h1, h2⟩ := ba h
      have hx := of_decide_eq_true h1
      subst hx
      refine (pi_range1 (g.gl _ h2) (g.blt _ (by decide)) (pa_cons (sndE _ m X Wx g _ h3) pa_nil (star_cons h4 _ _)) (star_cons h4 _ _)).weak fun σ H Q ⟨F, β, Γ, S, s, en, q⟩ => ?_
      refine runE (orcE_mono T k cur) s en q (fun _ _ q => q) fun F1 β1 S1 H1 v x e1 s1 r1 ⟨i, ev, l1, l2, q1⟩ => ?_
      subst ev
      cases r1
      exact ⟨i, rfl, l1, l2, q1 F1 β1 H1 _ e1 s1 itok_r⟩
    · cases h
  | c, .range2 m n, X, Wx, g, tg, e, h => by
    simp only [ckI] at h
    split at h
    · obtain ⟨h, h6⟩ := ba h
      obtain ⟨h, h5⟩ := ba h
      obtain ⟨h, h4⟩ := ba h
      obtain ⟨h, h3⟩ := ba h
      obtain ⟨h1, h2⟩ := ba h
      have hx := of_decide_eq_true h1
      subst hx
      refine (pi_range2 (g.gl _ h2) (g.blt _ (by decide)) (pa_cons (sndE _ m X Wx g _ h3) (pa_cons (sndE _ n X Wx g _ h5) pa_nil (star_cons h6 _ _)) (star_cons h4 _ _)) (by rw [star_cons h4, star_cons h6]; rfl) (star_cons h6 _ _)).weak fun σ H Q ⟨F, β, Γ, S, s, en, q⟩ => ?_
      refine runE (orcE_mono T k cur) s en q (fun _ _ q => q) fun F1 β1 S1 H1 v x e1 s1 r1 q1 => ?_
      refine runE (orcE_mono T k cur) s1 (en.ext e1) q1 (postX_ext e1) fun F2 β2 S2 H2 u y e2 s2 r2 ⟨i, ev, j, eu, l1, q2⟩ => ?_
      subst ev eu
      cases r1
      cases r2
      exact ⟨i, j, rfl, l1, q2 F2 β2 H2 _ (e1.trans e2) s2 itok_r⟩
    · cases h
  | c, .revr m, X, Wx, g, tg, e, h => by
    simp only [ckI] at h
    split at h
    · obtain ⟨h, h6⟩ := ba h
      obtain ⟨h, h5⟩ := ba h
      obtain ⟨h, h4⟩ := ba h
      obtain ⟨h, h3⟩ := ba h
      obtain ⟨h1, h2⟩ := ba h
      have hx := of_decide_eq_true h1
      have hy := of_decide_eq_true h3
      subst hx hy
      refine (pi_revR (g.gl _ h2) (g.blt _ (by decide)) (prg_1 (g.gl _ h4) (g.blt _ (by decide)) (sndE _ m X Wx g _ h5) (star_cons h6 _ _)) rfl).weak fun σ H Q ⟨F, β, Γ, S, s, en, q⟩ => ?_
      refine runE (orcE_mono T k cur) s en q (fun _ _ q => q) fun F1 β1 S1 H1 v x e1 s1 r1 ⟨i, ev, ⟨l1, l2⟩, q1⟩ => ?_
      subst ev
      cases r1
      refine ⟨i, rfl, by decide, by decide, l1, l2, ?_⟩
      have z1 : (0 : Int) + (((i - 0).toNat : Nat) : Int) - 1 = ((i.toNat : Nat) : Int) - 1 := by omega
      have z2 : (i - 0).toNat = i.toNat := by omega
      rw [z1, z2]
      exact q1 F1 β1 H1 _ e1 s1 itok_d
    · cases h
  | c, .rangeD m n, X, Wx, g, tg, e, h => by
    simp only [ckI] at h
    split at h
    · obtain ⟨h, h7⟩ := ba h
      obtain ⟨h, h6⟩ := ba h
      obtain ⟨h, h5⟩ := ba h
      obtain ⟨h, h4⟩ := ba h
      obtain ⟨h, h3⟩ := ba h
      obtain ⟨h1, h2⟩ := ba h
      have hx := of_decide_eq_true h1
      have hj := of_decide_eq_true h7
      subst hx hj
      refine (pi_range3 (g.gl _ h2) (g.blt _ (by decide)) (pa_cons (sndE _ m X Wx g _ h3) (pa_cons (sndE _ n X Wx g _ h5) (pa_cons (pe_un un_neg pe_int) pa_nil rfl) (star_cons h6 _ _)) (star_cons h4 _ _)) (star_cons h4 _ _) (by rw [star_cons h6]; rfl)).weak fun σ H Q ⟨F, β, Γ, S, s, en, q⟩ => ?_
      refine runE (orcE_mono T k cur) s en q (fun _ _ q => q) fun F1 β1 S1 H1 v x e1 s1 r1 q1 => ?_
      refine runE (orcE_mono T k cur) s1 (en.ext e1) q1 (postX_ext e1) fun F2 β2 S2 H2 u y e2 s2 r2 ⟨i, ev, j, eu, ⟨l1, l2, l3, l4⟩, q2⟩ => ?_
      subst ev eu
      cases r1
      cases r2
      refine ⟨1, rfl, i, j, -1, (i - j).toNat, rfl, RgC.neg l1 l2 l3 l4, ?_⟩
      exact q2 F2 β2 H2 _ (e1.trans e2) s2 itok_d
    · cases h
  | c, .enum m, X, Wx, g, tg, e, h => by
    simp only [ckI] at h
    split at h
    · obtain ⟨h, h4⟩ := ba h
      obtain ⟨h, h3⟩ := ba h
      obtain ⟨h1, h2⟩ := ba h
      have hx := of_decide_eq_true h1
      subst hx
      refine (pi_enumA (g.gl _ h2) (g.blt _ (by decide)) (pa_cons (sndE _ m X Wx g _ h3) pa_nil (star_cons h4 _ _)) (star_cons h4 _ _)).weak fun σ H Q ⟨F, β, Γ, S, s, en, q⟩ => ?_
      refine runE (orcE_mono T k cur) s en q (fun _ _ q => q) fun F1 β1 S1 H1 v x e1 s1 r1 q1 => ?_
      obtain ⟨a, ys, xs, G, ev, z, p⟩ := wEn_ok s1 r1 q1
      subst ev
      refine ⟨a, ys, rfl, ?_⟩
      rcases z with ⟨z1, z2⟩ | ⟨z1, z2⟩
      · exact .inl ⟨z1, p F1 β1 H1 _ e1 s1 z2⟩
      · exact .inr ⟨z1, p F1 β1 H1 _ e1 s1 z2⟩
    · cases h
  | c, .zip m n, X, Wx, g, tg, e, h => by
    simp only [ckI] at h
    split at h
    · obtain ⟨h, h6⟩ := ba h
      obtain ⟨h, h5⟩ := ba h
      obtain ⟨h, h4⟩ := ba h
      obtain ⟨h, h3⟩ := ba h
      obtain ⟨h1, h2⟩ := ba h
      have hx := of_decide_eq_true h1
      subst hx
      refine (pi_zip (g.gl _ h2) (g.blt _ (by decide)) (pa_cons (sndE _ m X Wx g _ h3) (pa_cons (sndE _ n X Wx g _ h5) pa_nil (star_cons h6 _ _)) (star_cons h4 _ _)) (star_cons h4 _ _) (by rw [star_cons h6]; rfl)).weak fun σ H Q ⟨F, β, Γ, S, s, en, q⟩ => ?_
      refine runE (orcE_mono T k cur) s en q (fun _ _ q => q) fun F1 β1 S1 H1 v x e1 s1 r1 q1 => ?_
      refine runE (orcE_mono T k cur) s1 (en.ext e1) q1 (postX_ext e1) fun F2 β2 S2 H2 u y e2 s2 r2 q2 => ?_
      obtain ⟨a, ys, xs, G, ev, z1, z2, z3, q3⟩ := wLst_ok s2 (r1.ext e2) q2
      obtain ⟨b, ys', xs', G', eu, z4, z5, z6, p⟩ := wLst_ok s2 r2 q3
      subst ev eu
      exact ⟨a, b, ys, ys', rfl, z1, z4, p F2 β2 H2 _ (e1.trans e2) s2 (itok_z z3 ys z2 z6 ys' z5)⟩
    · cases h
  | c, .rev m, X, Wx, g, tg, e, h => by
    simp only [ckI] at h
    split at h
    · obtain ⟨h, h4⟩ := ba h
      obtain ⟨h, h3⟩ := ba h
      obtain ⟨h1, h2⟩ := ba h
      have hx := of_decide_eq_true h1
      subst hx
      refine (pi_reversed (g.gl _ h2) (g.blt _ (by decide)) (pa_cons (sndE _ m X Wx g _ h3) pa_nil (star_cons h4 _ _)) (star_cons h4 _ _)).weak fun σ H Q ⟨F, β, Γ, S, s, en, q⟩ => ?_
      refine runE (orcE_mono T k cur) s en q (fun _ _ q => q) fun F1 β1 S1 H1 v x e1 s1 r1 q1 => ?_
      obtain ⟨a, ys, xs, G, ev, z1, z2, z3, p⟩ := wLst_ok s1 r1 q1
      subst ev
      exact ⟨a, ys, rfl, z1, p F1 β1 H1 _ e1 s1 (itok_v z3 ys z2)⟩
    · cases h
  | c, .keys m, X, Wx, g, tg, e, h => by
    simp only [ckI] at h
    obtain ⟨h1, h2⟩ := ba h
    refine (pi_keys (sndE _ m X Wx g _ h1)).weak fun σ H Q ⟨F, β, Γ, S, s, en, q⟩ => ?_
    refine runE (orcE_mono T k cur) s en q (fun _ _ q => q) fun F1 β1 S1 H1 v x e1 s1 r1 ⟨kk, ev, kvs, hk, q1⟩ => ?_
    subst ev
    obtain ⟨a, rfl, t⟩ := r1
    obtain ⟨b, e2, _, od, ys, e3, qq⟩ := s1.at hk
    rw [t] at e2
    cases (Option.some.inj e2)
    exact ⟨a, od, rfl, .inl ⟨ys, s1.sub _ _ e3, q1 F1 β1 H1 _ e1 s1 (itok_k e3 qq)⟩⟩
  | c, .items m, X, Wx, g, tg, e, h => by
    simp only [ckI] at h
    split at h
    · obtain ⟨h, h4⟩ := ba h
      obtain ⟨h, h3⟩ := ba h
      obtain ⟨h1, h2⟩ := ba h
      have hx := of_decide_eq_true h1
      subst hx
      refine (pi_items (sndE _ m X Wx g _ h2) (plainB_ok h4 _ _ _) h3).weak fun σ H Q ⟨F, β, Γ, S, s, en, q⟩ => ?_
      refine runE (orcE_mono T k cur) s en q (fun _ _ q => q) fun F1 β1 S1 H1 v x e1 s1 r1 ⟨kk, ev, kvs, hk, q1⟩ => ?_
      subst ev
      obtain ⟨a, rfl, t⟩ := r1
      obtain ⟨b, e2, _, od, ys, e3, qq⟩ := s1.at hk
      rw [t] at e2
      cases (Option.some.inj e2)
      exact ⟨a, od, ys, rfl, s1.sub _ _ e3, q1 F1 β1 H1 _ e1 s1 (itok_i e3 qq)⟩
    · cases h
theorem sndT0 : ∀ (c : Ctx) (m : Tes0) (X : Cx) (Wx : WX), Gd c cA T k cur Wx X → ∀ (e : List Expr), ckT0 c m e = true → PTs X e (liftT X.K cA Wx (fun Γ S P _ => WT0 (orcE T k cur) m Γ S P))
  | c, .none, X, Wx, g, e, h => by
    simp only [ckT0] at h
    split at h
    · exact pts_nil.weak fun σ H Q ⟨F, β, Γ, S, s, en, q⟩ => q F β H (Ext.refl _ _) s
    · cases h
  | c, .some t, X, Wx, g, e, h => by
    simp only [ckT0] at h
    split at h
    · exact (pts_one (sndT _ t X Wx g _ h)).weak fun σ H Q ⟨F, β, Γ, S, s, en, q⟩ => ⟨F, β, Γ, S, s, en, WT_mono (orcE_mono T k cur) t _ _ _ _ _ _ (fun _ _ z => z) (fun _ _ z => z.elim) q⟩
    · cases h
theorem sndT : ∀ (c : Ctx) (m : Te) (X : Cx) (Wx : WX), Gd c cA T k cur Wx X → ∀ (e : Expr), ckT c m e = true → PT X e (liftT X.K cA Wx (WT (orcE T k cur) m))
  | c, .val m, X, Wx, g, e, h => by
    simp only [ckT] at h
    obtain ⟨h1, h2⟩ := ba h
    by_cases hp : plainT e = true
    · refine (pt_truth (sndE _ m X Wx g _ h1) (fun whole => plainT_he hp _ _)).weak fun σ H Q ⟨F, β, Γ, S, s, en, q⟩ => ?_
      refine runE (orcE_mono T k cur) s en q (fun _ _ q => q) fun F1 β1 S1 H1 v x e1 s1 r1 ⟨b, q1, q2⟩ => ?_
      exact ⟨b, tru_ok2 s1 r1 q1, q2 F1 β1 H1 e1 s1⟩
    · have hc : isCmp m = true := by
        rcases Bool.or_eq_true_iff.mp h2 with z | z
        · exact absurd z hp
        · exact z
      match m, hc with
      | .cmp op a b, _ =>
        simp only [ckE] at h1
        split at h1
        · obtain ⟨h, h4⟩ := ba h1
          obtain ⟨h, h3⟩ := ba h
          obtain ⟨h1, h2⟩ := ba h
          obtain ⟨r, ho, hs⟩ := cmp_ok (X := X) (cA := cA) g.u65 h1
          refine (pt_cmpR ho (sndE _ a X Wx g _ h2) (sndE _ b X Wx g _ h3) (noSet_mark h4 _)).weak fun σ H Q ⟨F, β, Γ, S, s, en, q⟩ => ?_
          refine runE (orcE_mono T k cur) s en q (fun _ _ q => q) fun F1 β1 S1 H1 v x e1 s1 r1 q1 => ?_
          refine runE (orcE_mono T k cur) s1 (en.ext e1) q1 (postX_ext e1) fun F2 β2 S2 H2 u y e2 s2 r2 q2 => ?_
          refine hs F2 β2 S2 H2 v u x y _ s2 (r1.ext e2) r2 (wCmp_mono (fun z S3 ⟨⟨b, ez⟩, b', eb, z3⟩ => ?_) (wCmp_bl q2))
          subst ez
          cases eb
          intro F3 β3 H3 zz e3 s3 rz
          cases rz
          exact ⟨_, rfl, z3 F3 β3 H3 (e1.trans (e2.trans e3)) s3⟩
        · cases h1
      | .isN a, _ =>
        simp only [ckE] at h1
        split at h1
        · refine (pt_cmp (pc_isN (sndE _ a X Wx g _ h1)) rfl).weak fun σ H Q ⟨F, β, Γ, S, s, en, q⟩ => ?_
          refine runE (orcE_mono T k cur) s en q (fun _ _ q => q) fun F1 β1 S1 H1 v x e1 s1 r1 ⟨b, eb, q1⟩ => ?_
          cases eb
          rw [isNon_ok r1]
          exact ⟨_, rfl, q1 F1 β1 H1 e1 s1⟩
        · cases h1
      | .notN a, _ =>
        simp only [ckE] at h1
        split at h1
        · refine (pt_cmp (pc_notN (sndE _ a X Wx g _ h1)) rfl).weak fun σ H Q ⟨F, β, Γ, S, s, en, q⟩ => ?_
          refine runE (orcE_mono T k cur) s en q (fun _ _ q => q) fun F1 β1 S1 H1 v x e1 s1 r1 ⟨b, eb, q1⟩ => ?_
          cases eb
          rw [isNon_ok r1]
          exact ⟨_, rfl, q1 F1 β1 H1 e1 s1⟩
        · cases h1
      | .chain op op' a b d, _ =>
        simp only [ckE] at h1
        split at h1
        · obtain ⟨h, h6⟩ := ba h1
          obtain ⟨h, h5⟩ := ba h
          obtain ⟨h, h4⟩ := ba h
          obtain ⟨h, h3⟩ := ba h
          obtain ⟨h1, h2⟩ := ba h
          obtain ⟨r, ho, hs⟩ := cmp_ok (X := X) (cA := cA) g.u65 h1
          obtain ⟨r', ho', hs'⟩ := cmp_ok (X := X) (cA := cA) g.u65 h2
          refine (pt_chain ho ho' (sndE _ a X Wx g _ h3) (sndE _ b X Wx g _ h4) (sndE _ d X Wx g _ h5) (noSet_mark h6 _)).weak fun σ H Q ⟨F, β, Γ, S, s, en, q⟩ => ?_
          refine runE (orcE_mono T k cur) s en q (fun _ _ q => q) fun F1 β1 S1 H1 v x e1 s1 r1 q1 => ?_
          refine runE (orcE_mono T k cur) s1 (en.ext e1) q1 (postX_ext e1) fun F2 β2 S2 H2 u y e2 s2 r2 q2 => ?_
          refine hs F2 β2 S2 H2 v u x y _ s2 (r1.ext e2) r2 (wCmp_mono (fun z S3 ⟨kk, ez, z3⟩ => ?_) q2)
          subst ez
          intro F3 β3 H3 zz e3 s3 rz
          cases rz
          refine ⟨kk, rfl, ?_⟩
          cases kk with
          | true =>
            refine runE (orcE_mono T k cur) s3 (en.ext (e1.trans (e2.trans e3))) z3 (postX_ext (e1.trans (e2.trans e3))) fun F4 β4 S4 H4 w y4 e4 s4 r4 q4 => ?_
            refine hs' F4 β4 S4 H4 u w y y4 _ s4 (r2.ext (e3.trans e4)) r4 (wCmp_mono (fun z S3 ⟨⟨b, ez⟩, b', eb, z3⟩ => ?_) (wCmp_bl q4))
            subst ez
            cases eb
            intro F5 β5 H5 zz e5 s5 rz
            cases rz
            exact ⟨_, rfl, z3 F5 β5 H5 (e1.trans (e2.trans (e3.trans (e4.trans e5)))) s5⟩
          | false =>
            obtain ⟨b', eb, z3⟩ := z3
            cases eb
            exact ⟨_, rfl, z3 F3 β3 H3 (e1.trans (e2.trans e3)) s3⟩
        · cases h1
      | .chain3 op op' op'' a b d f, _ =>
        simp only [ckE] at h1
        split at h1
        · obtain ⟨h, h8⟩ := ba h1
          obtain ⟨h, h7⟩ := ba h
          obtain ⟨h, h6⟩ := ba h
          obtain ⟨h, h5⟩ := ba h
          obtain ⟨h, h4⟩ := ba h
          obtain ⟨h, h3⟩ := ba h
          obtain ⟨h1, h2⟩ := ba h
          obtain ⟨r, ho, hs⟩ := cmp_ok (X := X) (cA := cA) g.u65 h1
          obtain ⟨r', ho', hs'⟩ := cmp_ok (X := X) (cA := cA) g.u65 h2
          obtain ⟨r'', ho'', hs''⟩ := cmp_ok (X := X) (cA := cA) g.u65 h3
          refine (pt_chain3 ho ho' ho'' (sndE _ a X Wx g _ h4) (sndE _ b X Wx g _ h5) (sndE _ d X Wx g _ h6) (sndE _ f X Wx g _ h7) (noSet_mark h8 _)).weak fun σ H Q ⟨F, β, Γ, S, s, en, q⟩ => ?_
          refine runE (orcE_mono T k cur) s en q (fun _ _ q => q) fun F1 β1 S1 H1 v x e1 s1 r1 q1 => ?_
          refine runE (orcE_mono T k cur) s1 (en.ext e1) q1 (postX_ext e1) fun F2 β2 S2 H2 u y e2 s2 r2 q2 => ?_
          refine hs F2 β2 S2 H2 v u x y _ s2 (r1.ext e2) r2 (wCmp_mono (fun z S3 ⟨kk, ez, z3⟩ => ?_) q2)
          subst ez
          intro F3 β3 H3 zz e3 s3 rz
          cases rz
          refine ⟨kk, rfl, ?_⟩
          cases kk with
          | true =>
            refine runE (orcE_mono T k cur) s3 (en.ext (e1.trans (e2.trans e3))) z3 (postX_ext (e1.trans (e2.trans e3))) fun F4 β4 S4 H4 w y4 e4 s4 r4 q4 => ?_
            refine hs' F4 β4 S4 H4 u w y y4 _ s4 (r2.ext (e3.trans e4)) r4 (wCmp_mono (fun z S5 ⟨kk, ez, z5⟩ => ?_) q4)
            subst ez
            intro F5 β5 H5 zz e5 s5 rz
            cases rz
            refine ⟨kk, rfl, ?_⟩
            cases kk with
            | true =>
              refine runE (orcE_mono T k cur) s5 (en.ext (e1.trans (e2.trans (e3.trans (e4.trans e5))))) z5 (postX_ext (e1.trans (e2.trans (e3.trans (e4.trans e5))))) fun F6 β6 S6 H6 w6 y6 e6 s6 r6 q6 => ?_
              refine hs'' F6 β6 S6 H6 w w6 y4 y6 _ s6 (r4.ext (e5.trans e6)) r6 (wCmp_mono (fun z S7 ⟨⟨b, ez⟩, b', eb, z7⟩ => ?_) (wCmp_bl q6))
              subst ez
              cases eb
              intro F7 β7 H7 zz e7 s7 rz
              cases rz
              exact ⟨_, rfl, z7 F7 β7 H7 (e1.trans (e2.trans (e3.trans (e4.trans (e5.trans (e6.trans e7)))))) s7⟩
            | false =>
              obtain ⟨b', eb, z5⟩ := z5
              cases eb
              exact ⟨_, rfl, z5 F5 β5 H5 (e1.trans (e2.trans (e3.trans (e4.trans e5)))) s5⟩
          | false =>
            obtain ⟨b', eb, z3⟩ := z3
            cases eb
            exact ⟨_, rfl, z3 F3 β3 H3 (e1.trans (e2.trans e3)) s3⟩
        · cases h1
  | c, .not t, X, Wx, g, e, h => by
    simp only [ckT] at h
    split at h
    · refine (pt_not (sndT _ t X Wx g _ h)).weak fun σ H Q ⟨F, β, Γ, S, s, en, q⟩ => ?_
      exact runT (orcE_mono T k cur) s en q (fun _ _ q => q) fun F1 β1 S1 H1 v e1 s1 q1 => q1 F1 β1 H1 e1 s1
    · cases h
  | c, .and ts, X, Wx, g, e, h => by
    simp only [ckT] at h
    split at h
    · exact (sndA _ ts X Wx g _ _ h).pt.weak fun σ H Q q => q
    · cases h
  | c, .or ts, X, Wx, g, e, h => by
    simp only [ckT] at h
    split at h
    · exact (sndO _ ts X Wx g _ _ h).pt.weak fun σ H Q q => q
    · cases h
theorem sndA : ∀ (c : Ctx) (m : Tes) (X : Cx) (Wx : WX), Gd c cA T k cur Wx X → ∀ (es : List Expr) (pos : Pos), ckTs c m es = true → PW X (.BoolOp .And es pos) (liftT X.K cA Wx (WA (orcE T k cur) m))
  | c, .one t, X, Wx, g, es, pos, h => by
    simp only [ckTs] at h
    split at h
    · exact (pw_and1 (sndT _ t X Wx g _ h)).weak fun σ H Q q => q
    · cases h
  | c, .cons t ts, X, Wx, g, es, pos, h => by
    simp only [ckTs] at h
    split at h
    · obtain ⟨h1, h2⟩ := ba h
      refine (pw_and (sndT _ t X Wx g _ h1) (sndA _ ts X Wx g _ pos h2)).weak fun σ H Q ⟨F, β, Γ, S, s, en, q⟩ => ?_
      refine runT (orcE_mono T k cur) s en q (fun _ _ q => q) fun F1 β1 S1 H1 v e1 s1 q1 => ?_
      cases v with
      | true => exact ⟨F1, β1, Γ, S1, s1, en.ext e1, WA_mono (orcE_mono T k cur) ts _ _ _ _ _ _ (fun b S2 z F2 β2 H2 e2 s2 => z F2 β2 H2 (e1.trans e2) s2) (postX_ext e1) q1⟩
      | false => exact q1 F1 β1 H1 e1 s1
    · cases h
theorem sndO : ∀ (c : Ctx) (m : Tes) (X : Cx) (Wx : WX), Gd c cA T k cur Wx X → ∀ (es : List Expr) (pos : Pos), ckTs c m es = true → PW X (.BoolOp .Or es pos) (liftT X.K cA Wx (WO (orcE T k cur) m))
  | c, .one t, X, Wx, g, es, pos, h => by
    simp only [ckTs] at h
    split at h
    · exact (pw_or1 (sndT _ t X Wx g _ h)).weak fun σ H Q q => q
    · cases h
  | c, .cons t ts, X, Wx, g, es, pos, h => by
    simp only [ckTs] at h
    split at h
    · obtain ⟨h1, h2⟩ := ba h
      refine (pw_or (sndT _ t X Wx g _ h1) (sndO _ ts X Wx g _ pos h2)).weak fun σ H Q ⟨F, β, Γ, S, s, en, q⟩ => ?_
      refine runT (orcE_mono T k cur) s en q (fun _ _ q => q) fun F1 β1 S1 H1 v e1 s1 q1 => ?_
      cases v with
      | false => exact ⟨F1, β1, Γ, S1, s1, en.ext e1, WO_mono (orcE_mono T k cur) ts _ _ _ _ _ _ (fun b S2 z F2 β2 H2 e2 s2 => z F2 β2 H2 (e1.trans e2) s2) (postX_ext e1) q1⟩
      | true => exact q1 F1 β1 H1 e1 s1
    · cases h
theorem sndB : ∀ (c : Ctx) (m : Te) (X : Cx) (Wx : WX), Gd c cA T k cur Wx X → ∀ (e : Expr), ckT c m e = true → PE X e (liftE X.K cA Wx (WB (orcE T k cur) m))
  | c, .val m, X, Wx, g, e, h => by
    simp only [ckT] at h
    exact (sndE _ m X Wx g e (ba h).1).weak fun σ H Q q => q
  | c, .not t, X, Wx, g, e, h => by
    simp only [ckT] at h
    split at h
    · refine (pe_not (sndB _ t X Wx g _ h)).weak fun σ H Q ⟨F, β, Γ, S, s, en, q⟩ => ?_
      refine runB (orcE_mono T k cur) s en q (fun _ _ q => q) fun F1 β1 S1 H1 v x e1 s1 r1 ⟨b, eb, q1⟩ => ?_
      subst eb
      cases r1
      exact ⟨b, rfl, post_here (v := .bl _) s1 rfl (post_ext e1 q1)⟩
    · cases h
  | c, .and ts, X, Wx, g, e, h => by
    simp only [ckT] at h
    split at h
    · exact (sndBA _ ts X Wx g _ _ h).weak fun σ H Q q => q
    · cases h
  | c, .or ts, X, Wx, g, e, h => by
    simp only [ckT] at h
    split at h
    · exact (sndBO _ ts X Wx g _ _ h).weak fun σ H Q q => q
    · cases h
theorem sndBA : ∀ (c : Ctx) (m : Tes) (X : Cx) (Wx : WX), Gd c cA T k cur Wx X → ∀ (es : List Expr) (pos : Pos), ckTs c m es = true → PE X (.BoolOp .And es pos) (liftE X.K cA Wx (WBA (orcE T k cur) m))
  | c, .one t, X, Wx, g, es, pos, h => by
    simp only [ckTs] at h
    split at h
    · exact (pe_one (sndB _ t X Wx g _ h)).weak fun σ H Q q => q
    · cases h
  | c, .cons t ts, X, Wx, g, es, pos, h => by
    simp only [ckTs] at h
    split at h
    · obtain ⟨h1, h2⟩ := ba h
      refine (pe_andT (sndB _ t X Wx g _ h1) (sndBA _ ts X Wx g _ pos h2)).weak fun σ H Q ⟨F, β, Γ, S, s, en, q⟩ => ?_
      refine runB (orcE_mono T k cur) s en q (fun _ _ q => q) fun F1 β1 S1 H1 v x e1 s1 r1 ⟨b, eb, q1⟩ => ?_
      refine ⟨b, tru_ok2 s1 r1 eb, ?_⟩
      cases b with
      | true => exact ⟨F1, β1, Γ, S1, s1, en.ext e1, WBA_mono (orcE_mono T k cur) ts _ _ _ _ _ _ (fun b S2 z => post_ext e1 z) (postX_ext e1) q1⟩
      | false => exact post_here s1 r1 (post_ext e1 q1)
    · cases h
theorem sndBO : ∀ (c : Ctx) (m : Tes) (X : Cx) (Wx : WX), Gd c cA T k cur Wx X → ∀ (es : List Expr) (pos : Pos), ckTs c m es = true → PE X (.BoolOp .Or es pos) (liftE X.K cA Wx (WBO (orcE T k cur) m))
  | c, .one t, X, Wx, g, es, pos, h => by
    simp only [ckTs] at h
    split at h
    · exact (pe_one (sndB _ t X Wx g _ h)).weak fun σ H Q q => q
    · cases h
  | c, .cons t ts, X, Wx, g, es, pos, h => by
    simp only [ckTs] at h
    split at h
    · obtain ⟨h1, h2⟩ := ba h
      refine (pe_orT (sndB _ t X Wx g _ h1) (sndBO _ ts X Wx g _ pos h2)).weak fun σ H Q ⟨F, β, Γ, S, s, en, q⟩ => ?_
      refine runB (orcE_mono T k cur) s en q (fun _ _ q => q) fun F1 β1 S1 H1 v x e1 s1 r1 ⟨b, eb, q1⟩ => ?_
      refine ⟨b, tru_ok2 s1 r1 eb, ?_⟩
      cases b with
      | false => exact ⟨F1, β1, Γ, S1, s1, en.ext e1, WBO_mono (orcE_mono T k cur) ts _ _ _ _ _ _ (fun b S2 z => post_ext e1 z) (postX_ext e1) q1⟩
      | true => exact post_here s1 r1 (post_ext e1 q1)
    · cases h
/-- written arguments, a lambda last -/
theorem sndLc : ∀ (c : Ctx) (id : Str) (js : List Nat) (m : Exs) (X : Cx) (Wx : WX), Gd c cA T k cur Wx X → ∀ (e : List Expr), ckLc c id js m e = true → ∀ (pos : Pos) (pins : List (Addr × Obj)) (s : Shared) (σ : St) (H : Hp) (Post : List Value → Shared → Prop) (F : Hp) (β : List Addr) (Γ : Env) (S : Sto) (R : PL) (E0 : PX),
    Inv X pins σ H s → Sim X.K cA F β S H → EnvR X.K F β Γ σ → WL (orcE T k cur) m Γ S R E0 → (∀ c S, E0 c S → postX X.K cA F β Wx σ c S) →
    (∀ (params : Arguments) (body : Expr) (scope : Scope) (lpos : Pos), ckLam c id js params (.expr body) scope = true → ∀ (F1 : Hp) (β1 : List Addr) (S1 : Sto) (H1 : Hp) (vs : List Va) (xs : List V) (us : List Value) (s1 : Shared), Ext F β F1 β1 → Sim X.K cA F1 β1 S1 H1 → VRs X.K F1 β1 vs xs → Inv X pins σ H1 s1 → Vals xs us → R vs S1 →
      wpAny (model X.prog X.w) X.A (eval (.Lambda params body scope lpos) X.env) (fun u s2 => Post (us ++ [u]) s2) X.xe s1) →
    wpAny (model X.prog X.w) X.A (spliced (backTo pos (starEach e X.env))) Post X.xe s
  | c, id, js, .nil, X, Wx, g, e, h, pos, pins, s, σ, H, Post, F, β, Γ, S, R, E0, I, si, en, w, hE, hh => by
    simp only [ckLc] at h
    split at h
    · refine Calls.spliced_cons (thn (hh _ _ _ _ h F β S H [] [] [] s (Ext.refl _ _) si rfl I .nil w) fun u s1 q => Calls.spliced_nil q)
    · cases h
  | c, id, js, .cons m ms, X, Wx, g, e, h, pos, pins, s, σ, H, Post, F, β, Γ, S, R, E0, I, si, en, w, hE, hh => by
    simp only [ckLc] at h
    split at h
    · rename_i e1 er
      obtain ⟨h, h3⟩ := ba h
      obtain ⟨h1, h2⟩ := ba h
      rw [star_cons h2]
      show wpAny _ _ (spliced ((false, eval e1 X.env) :: backTo pos (starEach er X.env))) _ _ s
      refine Calls.spliced_cons (thn ((sndE _ m X Wx g _ h1).run pins s σ H (fun x H1 => ∃ F1 β1 S1 v, Ext F β F1 β1 ∧ Sim X.K cA F1 β1 S1 H1 ∧ VR X.K F1 β1 v x ∧ WL (orcE T k cur) ms Γ S1 (fun vs S2 => R (v :: vs) S2) E0) I ?_) fun u s1 ⟨x, H1, I1, rx, F1, β1, S1, v, e2, s2, r1, q1⟩ => ?_)
      · exact runE (orcE_mono T k cur) si en w hE fun F1 β1 S1 H1 v x e1 s1 r1 q1 => ⟨F1, β1, S1, v, e1, s1, r1, q1⟩
      · refine sndLc c id js ms X Wx g er h3 pos pins s1 σ H1 _ F1 β1 Γ S1 _ E0 I1 s2 (en.ext e2) q1 (fun c S z => postX_ext e2 c S (hE c S z)) fun params body scope lpos hck F2 β2 S2 H2 vs xs us s3 e3 s4 r2 I2 rv q2 => ?_
        exact hh params body scope lpos hck F2 β2 S2 H2 (v :: vs) (x :: xs) (u :: us) s3 (e2.trans e3) s4 ⟨x, xs, rfl, r1.ext e3, r2⟩ I2 (.cons rx rv) q2
    · cases h
theorem sndJ : ∀ (c : Ctx) (m : Exs) (X : Cx) (Wx : WX), Gd c cA T k cur Wx X → ∀ (e : List Expr), ckL c m e = true → ∃ ts, PJ X e ts ∧ ∀ (acc : Str) (σ : St) (H : Hp) (Q : Str → Hp → Prop), (∃ F β Γ S, Sim X.K cA F β S H ∧ EnvR X.K F β Γ σ ∧ WJ (orcE T k cur) m acc Γ S (post X.K cA F β (fun x H' => ∀ out, x = .str out → Q out H')) (postX X.K cA F β Wx σ)) → tJs ts acc σ H Q
  | c, .nil, X, Wx, g, e, h => by
    simp only [ckL] at h
    split at h
    · exact ⟨[], .nil, fun acc σ H Q ⟨F, β, Γ, S, s, en, q⟩ => q F β H _ (Ext.refl _ _) s rfl _ rfl⟩
    · cases h
  | c, .cons m ms, X, Wx, g, e, h => by
    simp only [ckL] at h
    split at h
    · obtain ⟨h, h3⟩ := ba h
      obtain ⟨h1, h2⟩ := ba h
      obtain ⟨ts, pj, hts⟩ := sndJ c ms X Wx g _ h3
      refine ⟨_, .cons (sndE _ m X Wx g _ h1) pj, fun acc σ H Q ⟨F, β, Γ, S, s, en, q⟩ => ?_⟩
      refine runE (orcE_mono T k cur) s en q (fun _ _ q => q) fun F1 β1 S1 H1 v x e1 s1 r1 ⟨y, ey, hl, q1⟩ => ?_
      subst ey
      cases r1
      exact ⟨y, rfl, hl, hts (acc ++ y) σ H1 Q ⟨F1, β1, Γ, S1, s1, en.ext e1, WJ_mono (orcE_mono T k cur) ms (acc ++ y) Γ S1 _ _ _ _ (fun v S2 p => post_ext e1 p) (fun c' S' p => postX_ext e1 c' S' p) q1⟩⟩
    · cases h
theorem sndLm : ∀ (c : Ctx) (m : Exs) (X : Cx) (Wx : WX), Gd c cA T k cur Wx X → ∀ (e : List Expr), ckL c m e = true → ∀ (last : Expr), noStar last = true → ∀ (pos : Pos) (pins : List (Addr × Obj)) (s : Shared) (σ : St) (H : Hp) (Post : List Value → Shared → Prop) (F : Hp) (β : List Addr) (Γ : Env) (S : Sto) (R : PL) (E0 : PX),
    Inv X pins σ H s → Sim X.K cA F β S H → EnvR X.K F β Γ σ → WL (orcE T k cur) m Γ S R E0 → (∀ c S, E0 c S → postX X.K cA F β Wx σ c S) →
    (∀ (F1 : Hp) (β1 : List Addr) (S1 : Sto) (H1 : Hp) (vs : List Va) (xs : List V) (us : List Value) (s1 : Shared), Ext F β F1 β1 → Sim X.K cA F1 β1 S1 H1 → VRs X.K F1 β1 vs xs → Inv X pins σ H1 s1 → Vals xs us → R vs S1 →
      wpAny (model X.prog X.w) X.A (eval last X.env) (fun u s2 => Post (us ++ [u]) s2) X.xe s1) →
    wpAny (model X.prog X.w) X.A (spliced (backTo pos (starEach (e ++ [last]) X.env))) Post X.xe s
  | c, .nil, X, Wx, g, e, h, last, hl, pos, pins, s, σ, H, Post, F, β, Γ, S, R, E0, I, si, en, w, hE, hh => by
    simp only [ckL] at h
    split at h
    · rw [List.nil_append, star_cons hl]
      show wpAny _ _ (spliced ((false, eval last X.env) :: backTo pos (starEach [] X.env))) _ _ s
      refine Calls.spliced_cons (thn (hh F β S H [] [] [] s (Ext.refl _ _) si rfl I .nil w) fun u s1 q => Calls.spliced_nil q)
    · cases h
  | c, .cons m ms, X, Wx, g, e, h, last, hl, pos, pins, s, σ, H, Post, F, β, Γ, S, R, E0, I, si, en, w, hE, hh => by
    simp only [ckL] at h
    split at h
    · rename_i e1 er
      obtain ⟨h, h3⟩ := ba h
      obtain ⟨h1, h2⟩ := ba h
      rw [List.cons_append, star_cons h2]
      show wpAny _ _ (spliced ((false, eval e1 X.env) :: backTo pos (starEach (er ++ [last]) X.env))) _ _ s
      refine Calls.spliced_cons (thn ((sndE _ m X Wx g _ h1).run pins s σ H (fun x H1 => ∃ F1 β1 S1 v, Ext F β F1 β1 ∧ Sim X.K cA F1 β1 S1 H1 ∧ VR X.K F1 β1 v x ∧ WL (orcE T k cur) ms Γ S1 (fun vs S2 => R (v :: vs) S2) E0) I ?_) fun u s1 ⟨x, H1, I1, rx, F1, β1, S1, v, e2, s2, r1, q1⟩ => ?_)
      · exact runE (orcE_mono T k cur) si en w hE fun F1 β1 S1 H1 v x e1 s1 r1 q1 => ⟨F1, β1, S1, v, e1, s1, r1, q1⟩
      · refine sndLm c ms X Wx g er h3 last hl pos pins s1 σ H1 _ F1 β1 Γ S1 _ E0 I1 s2 (en.ext e2) q1 (fun c S z => postX_ext e2 c S (hE c S z)) fun F2 β2 S2 H2 vs xs us s3 e3 s4 r2 I2 rv q2 => ?_
        exact hh F2 β2 S2 H2 (v :: vs) (x :: xs) (u :: us) s3 (e2.trans e3) s4 ⟨x, xs, rfl, r1.ext e3, r2⟩ I2 (.cons rx rv) q2
    · cases h
theorem sndL : ∀ (c : Ctx) (m : Exs) (X : Cx) (Wx : WX), Gd c cA T k cur Wx X → ∀ (e : List Expr), ckL c m e = true → PA X e (liftL X.K cA Wx (WL (orcE T k cur) m))
  | c, .nil, X, Wx, g, e, h => by
    simp only [ckL] at h
    split at h
    · exact pa_nil.weak fun σ H Q ⟨F, β, Γ, S, s, en, q⟩ => q F β H [] (Ext.refl _ _) s rfl
    · cases h
  | c, .cons m ms, X, Wx, g, e, h => by
    simp only [ckL] at h
    split at h
    · obtain ⟨h, h3⟩ := ba h
      obtain ⟨h1, h2⟩ := ba h
      refine (pa_cons (sndE _ m X Wx g _ h1) (sndL _ ms X Wx g _ h3) (star_cons h2 _ _)).weak fun σ H Q ⟨F, β, Γ, S, s, en, q⟩ => ?_
      refine runE (orcE_mono T k cur) s en q (fun _ _ q => q) fun F1 β1 S1 H1 v x e1 s1 r1 q1 => ?_
      refine runL (orcE_mono T k cur) s1 (en.ext e1) q1 (postX_ext e1) fun F2 β2 S2 H2 vs xs e2 s2 r2 q2 => ?_
      exact q2 F2 β2 H2 (x :: xs) (e1.trans e2) s2 ⟨x, xs, rfl, r1.ext e2, r2⟩
    · cases h
end
end
end AM
end

section
set_option linter.all false
set_option maxRecDepth 100000
set_option maxHeartbeats 4000000
/-! AM, seventh part: statements; a store cut; calls. -/
namespace AM
open PySem L2

theorem _root_.L2.PS.weak {X : Cx} {e : Stmt} {t t' : TS} (h : PS X e t) (w : ∀ D σ H, t' D σ H → t D σ H) : PS X e t' := ⟨fun pins s σ H D I q => h.run pins s σ H D I (w _ _ _ q)⟩
theorem _root_.L2.PSs.weak {X : Cx} {e : List Stmt} {t t' : TS} (h : PSs X e t) (w : ∀ D σ H, t' D σ H → t D σ H) : PSs X e t' := ⟨fun pins s σ H D I q => h.run pins s σ H D I (w _ _ _ q)⟩

section
variable (K : PySem.W.Frag) (cA : Str → Addr)
def postG (F : Hp) (β : List Addr) (N : St → Hp → Prop) : Env → Sto → Prop := fun Γ' S' => ∀ F' β' H' σ', Ext F β F' β' → Sim K cA F' β' S' H' → EnvR K F' β' Γ' σ' → N σ' H'
def ends (Wx : WX) (F : Hp) (β : List Addr) (D : Ends) : AEnds where
  nx := postG K cA F β D.nx
  rt := post K cA F β D.rt
  bk := postG K cA F β D.bk
  ct := postG K cA F β D.ct
  ex := fun c => postG K cA F β fun σ' H' => Wx (.ref (cA c)) none σ' H'
def liftS (Wx : WX) (w : AEnds → Env → Sto → Prop) : TS := fun D σ H => ∃ F β Γ S, Sim K cA F β S H ∧ EnvR K F β Γ σ ∧ w (ends K cA Wx F β D) Γ S
end
section
variable {K : PySem.W.Frag} {cA : Str → Addr} {F F' : Hp} {β β' : List Addr} {Wx : WX}
theorem postG_ext {N : St → Hp → Prop} (e : Ext F β F' β') : ∀ Γ S, postG K cA F β N Γ S → postG K cA F' β' N Γ S := fun Γ S h F2 β2 H2 σ2 e2 s g => h F2 β2 H2 σ2 (e.trans e2) s g
theorem ends_ext {D : Ends} (e : Ext F β F' β') : DMono (ends K cA Wx F β D) (ends K cA Wx F' β' D) :=
  ⟨postG_ext e, fun v S h => post_ext e h, postG_ext e, postG_ext e, fun c => postG_ext e⟩
theorem ex_post {D : Ends} {σ : St} {Γ : Env} (g : EnvR K F β Γ σ) : ∀ (c : Str) (S : Sto), (ends K cA Wx F β D).ex c Γ S → postX K cA F β Wx σ c S := fun c S h F2 β2 H2 e s => h F2 β2 H2 σ e s (g.ext e)
end

theorem noSwap_sw {e : Expr} {x : Str} {p : Pos} {env : PySem.Env} (h : noSwap env.scope x p e = true) (l : Nat) : swapsWith e (some (.Name x p)) l env = pure false := by
  have key : noComp e = true ∨ ∃ elt gs scope pos, e = .ListComp elt gs scope pos := by
    cases e <;> first | exact .inr ⟨_, _, _, _, rfl⟩ | exact .inl h
  rcases key with key | ⟨elt, gs, scope, pos, rfl⟩
  · exact noComp_sw key _ _ _
  unfold noSwap at h
  unfold swapsWith
  simp only []
  have e1 : (env.blockKind == .function && env.kindOf x == some .local && p.line == (Expr.ListComp elt gs scope pos).pos.line && !(scope.names.any fun (n, k) => n == x && (k == .local || k == .cell))) = false := by
    have hk : (env.kindOf x == some .local) = decide (env.scope.names.lookup x = some .local) := by
      show (env.scope.names.lookup x == some .local) = _
      rw [Bool.eq_iff_iff]; simp
    have h2 : (decide (env.scope.names.lookup x = some .local) && (p.line == pos.line) && !(scope.names.any fun (n, k) => n == x && (k == .local || k == .cell))) = false := by
      cases hb : (decide (env.scope.names.lookup x = some .local) && (p.line == pos.line) && !(scope.names.any fun (n, k) => n == x && (k == .local || k == .cell))) with
      | false => rfl
      | true => exact absurd (show (!(decide (env.scope.names.lookup x = some .local) && (p.line == pos.line) && !(scope.names.any fun (n, k) => n == x && (k == .local || k == .cell)))) = true from h) (by rw [hb]; decide)
    rw [hk]
    show (_ && _ && (p.line == pos.line) && _) = false
    rw [Bool.and_assoc, Bool.and_assoc, ← Bool.and_assoc (decide _), h2, Bool.and_false]
  rw [e1]
theorem yesSwap_sw {elt : Expr} {gs : List Comprehension} {scope : Scope} {pos : Pos} {x : Str} {p : Pos} {env : PySem.Env} (hk : env.scope.kind = .function) (h : yesSwap env.scope x p (.ListComp elt gs scope pos) = true) (l : Nat) : env.scope.names.lookup x = some .local ∧ swapsWith (.ListComp elt gs scope pos) (some (.Name x p)) l env = pure true := by
  unfold yesSwap at h
  obtain ⟨h, h3⟩ := ba h
  obtain ⟨h1, h2⟩ := ba h
  have h4 := of_decide_eq_true h1
  exact ⟨h4, sw_true hk h4 h2 (by simpa using h3)⟩
theorem noTup_sw {ts : List Expr} {e : Expr} {k : Nat} {p : Pos} (h : noTup e = true) (env : PySem.Env) : swappedStores [.Tuple ts k p] e env = pure none := by
  cases e <;> first | rfl | cases h
theorem sub_sole {o i e : Expr} {p : Pos} {l : Nat} {env : PySem.Env} : swapsWithSole [.Subscript o i p] e l env = pure false := by cases e <;> rfl
theorem att_sw {o e : Expr} {n : Str} {p : Pos} {l : Nat} {env : PySem.Env} : swapsWith e (some (.Attribute o n p)) l env = pure false := by cases e <;> rfl
theorem noComp_sole {e : Expr} (h : noComp e = true) (t : Expr) (l : Nat) (env : PySem.Env) : swapsWithSole [t] e l env = pure false := noComp_sw h _ _ _
theorem noSlice_asg {i : Expr} (h : noSlice i = true) (o : Expr) (pos : Pos) (env : PySem.Env) (v : Value) : assign (.Subscript o i pos) env v = (do
      let ov ← holding [v] (eval o env)
      let iv ← holding [v, ov] (eval i env)
      standAt pos
      holding [v, ov, iv] (setItem ov iv v)
      release [v, ov, iv] []) := by
  cases i <;> first | rfl | cases h
theorem set_or {X : Cx} (hu : X.A.units + 1 < cLine) : PSet X (fun o i v H Q => rSetL o i v H Q ∨ ∃ a H', o = .ref a ∧ DPut H a i v H' ∧ Q H') := fun pins s σ H o i v ov iv u Q I ro ri rv h => by
  rcases h with h | ⟨a, H', rfl, hd, q⟩
  · exact set_list pins s σ H o i v ov iv u Q I ro ri rv h
  · cases ro
    exact d_setItem hu I hd ri rv fun s' I' => ⟨H', I', q⟩
theorem putFO_ok {C : Orc} {f : Str} {v : Va} {ob ob' : Ob} (h : putFO C f v ob = some ob') : ∃ c fs, ob = .ins c fs ∧ ob' = .ins c (putFA f v fs) ∧ C.noat c f = true ∧ fs.length < 1000 := by
  cases ob with
  | ins c fs =>
    simp only [putFO] at h
    split at h
    · rename_i hn; cases h; exact ⟨c, fs, rfl, rfl, hn.1, hn.2⟩
    · cases h
  | _ => cases h
section
variable {c : Ctx} {cA : Str → Addr} {T : Tab} {k : Nat}
theorem pass_str {s : Stmt} {X : Cx} {t : TS} (hp : ∀ pos, PS X (.Pass pos) t) (hd : ∀ x j p p', PS X (.Expr (.Constant (.str x) j p) p') t) (h : (match s with
    | .Pass _ => true
    | .Expr (.Constant (.str _) _ _) _ => true
    | _ => false) = true) : PS X s t := by
  split at h
  · exact hp _
  · exact hd _ _ _ _
  · cases h
theorem swap_par {x y z : Str} {px py pt pz p2 : Pos} {kt k2 : Nat} {b : Expr} {env : PySem.Env} (hk : env.scope.kind = .function) (hx : env.scope.names.lookup x = some .local) (hy : env.scope.names.lookup y = some .local) (hxy : x ≠ y) (hl : (py.line == px.line) = true) (hb : noStar b = true) (hz : (z == ("__debug__" : Str)) = false) :
    swappedStores [.Tuple [.Name x px, .Name y py] kt pt] (.Tuple [.Name z pz, b] k2 p2) env = pure (some [x, y]) := by
  have kx : env.kindOf x = some .local := hx
  have ky : env.kindOf y = some .local := hy
  have hbk : env.blockKind = .function := by unfold Env.blockKind; rw [hk]; rfl
  have hs : ([.Name z pz, b] : List Expr).any (fun | .Starred .. => true | _ => false) = false := by
    cases b <;> first | rfl | (cases hb)
  have hln : py.line = px.line := by simpa using hl
  have hd : ([x, y] : List Str).eraseDups.length = 2 := by
    have : (y == x) = false := beq_false_of_ne hxy.symm
    simp [List.eraseDups_cons, this]
  unfold swappedStores
  simp [hbk, kx, ky, hln, Expr.pos, foldedForSure, constantsAlone]
  have hz' : z ≠ ("__debug__" : Str) := by simpa using hz
  rw [if_neg (by cases b <;> first | (intro h; cases h; done) | (cases hb)), if_pos hd, if_neg (fun h => hz' h.1)]
theorem plainA_d0 {params : Arguments} (h : (plainA params).isSome = true) : params.defaults = [] ∧ params.kw_defaults = [] := by
  unfold plainA at h
  split at h
  · exact ⟨rfl, rfl⟩
  · exact ⟨rfl, rfl⟩
  · exact ⟨rfl, rfl⟩
  · cases h
theorem plainA_dflt {params : Arguments} (h : (plainA params).isSome = true) (env : PySem.Env) : params.defaults = [] ∧ params.kw_defaults = [] ∧ annTrees params none env = [] := by
  unfold plainA at h
  split at h
  · exact ⟨rfl, rfl, rfl⟩
  · exact ⟨rfl, rfl, rfl⟩
  · exact ⟨rfl, rfl, rfl⟩
  · cases h
theorem ckLd_star {c : Ctx} {x : Str} : ∀ (es : Exs) (e : List Expr) (pos : Pos) (env : PySem.Env), ckLd c x es e = true → (backTo pos (starEach e env)).any (·.1) = false
  | .nil, e, pos, env, h => by
    simp only [ckLd] at h
    split at h
    · rfl
    · cases h
  | .cons m ms, e, pos, env, h => by
    simp only [ckLd] at h
    split at h
    · rename_i e1 er
      obtain ⟨h, h3⟩ := ba h
      obtain ⟨h1, h2⟩ := ba h
      rw [star_cons h2]
      show (false || (backTo pos (starEach er env)).any (·.1)) = false
      rw [ckLd_star ms er pos env h3]; rfl
    · cases h
theorem ckLd_first {c : Ctx} {x : Str} (es : Exs) (e : List Expr) (pos : Pos) (env : PySem.Env) (h3 : ckLd c x es e = true) : ∃ e1 es', e = e1 :: es' ∧ starEach (e1 :: es') env = (false, eval e1 env) :: starEach es' env ∧ (backTo pos (starEach es' env)).any (·.1) = false := by
  cases es with
  | nil =>
    simp only [ckLd] at h3
    split at h3
    · exact ⟨_, _, rfl, rfl, rfl⟩
    · cases h3
  | cons m ms =>
    simp only [ckLd] at h3
    split at h3
    · obtain ⟨h3, h5⟩ := ba h3
      exact ⟨_, _, rfl, star_cons (ba h3).2 _ _, ckLd_star ms _ _ _ h5⟩
    · cases h3
theorem sndLd {c : Ctx} {x : Str} : ∀ (m : Exs) (X : Cx) (Wx : WX), Gd c cA T k cur Wx X → ∀ (e : List Expr), ckLd c x m e = true → ∀ (pos : Pos) (pins : List (Addr × Obj)) (s : Shared) (σ : St) (H : Hp) (Post : List Value → Shared → Prop) (F : Hp) (β : List Addr) (Γ : Env) (S : Sto) (R : PL) (E0 : PX),
    Inv X pins σ H s → Sim X.K cA F β S H → EnvR X.K F β Γ σ → WL (orcE T k cur) m Γ S R E0 → (∀ c S, E0 c S → postX X.K cA F β Wx σ c S) →
    (∀ (p : Pos) (F1 : Hp) (β1 : List Addr) (S1 : Sto) (H1 : Hp) (vs : List Va) (xs : List V) (us : List Value) (s1 : Shared), Ext F β F1 β1 → Sim X.K cA F1 β1 S1 H1 → VRs X.K F1 β1 vs xs → Inv X pins σ H1 s1 → Vals xs us → R vs S1 →
      wpAny (model X.prog X.w) X.A (eval (.Name x p) X.env) (fun u s2 => Post (us ++ [u]) s2) X.xe s1) →
    wpAny (model X.prog X.w) X.A (spliced (backTo pos (starEach e X.env))) Post X.xe s
  | .nil, X, Wx, g, e, h, pos, pins, s, σ, H, Post, F, β, Γ, S, R, E0, I, si, en, w, hE, hh => by
    simp only [ckLd] at h
    split at h
    · have := of_decide_eq_true h
      subst this
      refine Calls.spliced_cons (thn (hh _ F β S H [] [] [] s (Ext.refl _ _) si rfl I .nil w) fun u s1 q => Calls.spliced_nil q)
    · cases h
  | .cons m ms, X, Wx, g, e, h, pos, pins, s, σ, H, Post, F, β, Γ, S, R, E0, I, si, en, w, hE, hh => by
    simp only [ckLd] at h
    split at h
    · rename_i e1 er
      obtain ⟨h, h3⟩ := ba h
      obtain ⟨h1, h2⟩ := ba h
      rw [star_cons h2]
      show wpAny _ _ (spliced ((false, eval e1 X.env) :: backTo pos (starEach er X.env))) _ _ s
      refine Calls.spliced_cons (thn ((sndE _ m X Wx g _ h1).run pins s σ H (fun x H1 => ∃ F1 β1 S1 v, Ext F β F1 β1 ∧ Sim X.K cA F1 β1 S1 H1 ∧ VR X.K F1 β1 v x ∧ WL (orcE T k cur) ms Γ S1 (fun vs S2 => R (v :: vs) S2) E0) I ?_) fun u s1 ⟨x, H1, I1, rx, F1, β1, S1, v, e2, s2, r1, q1⟩ => ?_)
      · exact runE (orcE_mono T k cur) si en w hE fun F1 β1 S1 H1 v x e1 s1 r1 q1 => ⟨F1, β1, S1, v, e1, s1, r1, q1⟩
      · refine sndLd ms X Wx g er h3 pos pins s1 σ H1 _ F1 β1 Γ S1 _ E0 I1 s2 (en.ext e2) q1 (fun c S z => postX_ext e2 c S (hE c S z)) fun p F2 β2 S2 H2 vs xs us s3 e3 s4 r2 I2 rv q2 => ?_
        exact hh p F2 β2 S2 H2 (v :: vs) (x :: xs) (u :: us) s3 (e2.trans e3) s4 ⟨x, xs, rfl, r1.ext e3, r2⟩ I2 (.cons rx rv) q2
    · cases h
/-- a def within a def, handed over at once -/
theorem defret_ok {c : Ctx} {X : Cx} {Wx : WX} (g : Gd c cA T k cur Wx X) (hst : X.stack = X.env :: X.outer) (hfr : X.env.frame = some X.env.locals) {i : Nat} {o : Ex} {m id q name name2 nm : Str} {es : Exs} {js : List Nat} {params : Arguments} {body : List Stmt} {scope : Scope} {pos apos cpos rpos : Pos} {o' : Expr} {es' : List Expr}
    (h : (decide (name2 = name) && decide (c.N[i]? = some name) && c.lc name && visB c.sc name && ckLam c id js params (.stmts body) scope && c.lm.contains (name, q) && decide (nm = m) && ckE c o o' && ckLd c name es es' && plainB o' && (apos.endLine == cpos.line) && decide (es'.length < 28) && !c.hot) = true) :
    PSs X [.FunctionDef name params body [] none [] scope none name2 pos, .Return (some (.Call (.Attribute o' nm apos) es' [] cpos)) rpos] (liftS X.K cA Wx (WSs (orcE T k cur) (.defret i o m es id q js))) := by
  obtain ⟨h, hh⟩ := ba h
  have hh : c.hot = false := by simpa using hh
  obtain ⟨h, h6⟩ := ba h
  obtain ⟨h, h5⟩ := ba h
  obtain ⟨h, h4⟩ := ba h
  obtain ⟨h, h3⟩ := ba h
  obtain ⟨h, h2⟩ := ba h
  obtain ⟨h, h1⟩ := ba h
  obtain ⟨h, hq⟩ := ba h
  obtain ⟨h, hk⟩ := ba h
  obtain ⟨h, hv⟩ := ba h
  obtain ⟨h, hl⟩ := ba h
  obtain ⟨hn, hi⟩ := ba h
  have hx := of_decide_eq_true h1
  have hn := of_decide_eq_true hn
  have hi := of_decide_eq_true hi
  subst hx hn
  have hm : (name2, q) ∈ c.lm := by simpa using hq
  obtain ⟨eq, cc, hcode, TB⟩ := g.lam _ hm
  have eq : X.env.qual ++ name2 = q := eq
  obtain ⟨k1, k4⟩ := ba hk
  obtain ⟨k1, k3⟩ := ba k1
  obtain ⟨k1, k2⟩ := ba k1
  obtain ⟨d0, d1, d2⟩ := plainA_dflt k3 X.env
  have hfre : ∀ y ∈ scope.names, y.2 = .free → X.env.scope.names.lookup y.1 = some .cell ∨ X.env.scope.names.lookup y.1 = some .free := by rw [g.sc]; exact NdefX.ndef_free k2
  obtain ⟨e1, er, rfl, c1, c2⟩ := ckLd_first es es' cpos X.env h3
  obtain ⟨hloc, hfn⟩ := g.loc _ hl
  have hi' : X.N[i]? = some name2 := by rw [g.hN]; exact hi
  refine ⟨fun pins s σ H D I ⟨F, β, Γ, S, si, en, ⟨ti, ht⟩, ws, hws, w⟩ => ?_⟩
  have hfree : ∀ y ∈ scope.names, y.2 = .free → ∃ c, X.env.cells.lookup y.1 = some c := fun y hy e => (hfre y hy e).elim (fun z => I.ok.has _ (.inl z)) fun z => I.ok.has _ (.inr z)
  have hqn : qualnameIn X.env name2 name2 = q := by
    have hk : X.env.kindOf name2 = some .local ∨ X.env.kindOf name2 = some .cell := hloc
    unfold qualnameIn
    rcases hk with k | k <;> rw [k] <;> first | exact eq | exact (if_neg (by decide)).trans eq
  refine wpAny_execs_cons (PySem.W.nestDef_K d0 d1 d2 ?_)
  rw [hqn]
  refine def_free I TB hcode (si.tabS ht) hfree fun f c' doc pm ctv H1 s1 I1 hf hn hfs tu => ?_
  obtain ⟨F1, x1, s2, hc1⟩ := si.tabUpC ht tu
  have fne : f ≠ X.env.locals ∧ f ∉ X.fs := by
    rw [hst] at hfs
    unfold frs at hfs
    rw [List.filterMap_cons, hfr] at hfs
    exact ⟨fun z => hfs (by rw [z]; exact List.mem_cons_self), fun z => hfs (List.mem_cons_of_mem _ z)⟩
  have I1' : Inv X ((f, (⟨.type "function", none, .func (cloFd name2 q params (.stmts body) scope (cloFrom X.env.cells scope.names []) c' doc pm ctv), #[]⟩ : Obj)) :: pins) σ H1 s1 :=
    ⟨I1.ok, I1.os, I1.bare, I1.base, I1.loc, I1.cell, I1.free, I1.freeC, fun p hp => by
      rcases List.mem_append.mp hp with z | z
      · exact I1.pin p (List.mem_append_left _ z)
      · rcases List.mem_cons.mp z with rfl | z
        · exact ⟨hf, hn, fne.1, fne.2, fun v => by intro z; cases z⟩
        · exact I1.pin p (List.mem_append_right _ z), I1.hok, I1.len⟩
  refine store_ok I1' g.nd hi' hloc (v := .ref f) rfl (fun s3 I3 => ?_) hfn
  have back : ∀ {σ' : St} {H' : Hp} {s' : Shared}, Inv X ((f, (⟨.type "function", none, .func (cloFd name2 q params (.stmts body) scope (cloFrom X.env.cells scope.names []) c' doc pm ctv), #[]⟩ : Obj)) :: pins) σ' H' s' → Inv X pins σ' H' s' := fun J =>
    ⟨J.ok, J.os, J.bare, J.base, J.loc, J.cell, J.free, J.freeC, fun p hp => by
      rcases List.mem_append.mp hp with z | z
      · exact J.pin p (List.mem_append_left _ z)
      · exact J.pin p (List.mem_append_right _ (List.mem_cons_of_mem _ z)), J.hok, J.len⟩
  have en' : EnvR X.K F1 β (Γ.set i none) (σ.set i (some (.ref f))) := (en.ext x1).wipe1
  obtain ⟨xw, rw, exw⟩ := caps_ok en' hws
  show wpAny _ _ (execs [Stmt.Return _ _] X.env) _ _ s3
  refine wpAny_execs_cons (wpAny_Return_some ?_)
  have hE : ∀ c1 S1, (ends X.K cA Wx F β D).ex c1 (Γ.set i none) S1 → postX X.K cA F1 β Wx (σ.set i (some (.ref f))) c1 S1 := fun c1 S1 z => ex_post (D := D) en' c1 S1 (postG_ext x1 _ _ z)
  refine PySem.W.methodCall_KW (pl := _) (thn ((sndE c o X Wx g _ h2).run _ s3 (σ.set i (some (.ref f))) H1 (fun x H2 => ∃ F2 β2 S2 v, Ext F1 β F2 β2 ∧ Sim X.K cA F2 β2 S2 H2 ∧ VR X.K F2 β2 v x ∧ ∃ n, v = .loc n ∧ ∃ ob, S2[n]? = some ob ∧ ∃ key, mkey (orcE T k cur) nm ob = some key ∧ WL (orcE T k cur) es (Γ.set i none) S2 (fun vs S3 => ∀ z : Clo, z.id = id → (orcE T k cur).runC z key (v :: vs ++ [.fnv z ws]) S3 (ends X.K cA Wx F β D).rt (fun x S1 => (ends X.K cA Wx F β D).ex x (Γ.set i none) S1)) (fun x S1 => (ends X.K cA Wx F β D).ex x (Γ.set i none) S1)) I3 ?_) fun w0 s4 ⟨y, H2, I4, ry, F2, β2, S2, v, x2, s5, r1, n, ev, ob, q0, ky, qk, q1⟩ => ?_) (mcall_eq h4 h5 (few_ok (by rw [c1]; simpa [backTo] using c2) (of_decide_eq_true h6)))
  · exact runE (orcE_mono T k cur) s2 en' w hE fun F1 β1 S1 H1 v x e1 s1 r1 ⟨n, ev, ob, h0, ky, hk, q1⟩ => ⟨F1, β1, S1, v, e1, s1, r1, n, ev, ob, h0, ky, hk, q1⟩
  · subst ev
    obtain ⟨cn, fs, rfl, hn', hl'⟩ := mkey_ok qk
    obtain ⟨hc, d, fa, fd, hd, hM, hB, hF⟩ := g.meth _ (meth_mem hl')
    obtain ⟨a, dx, ys, rfl, tt, _, e2, qq⟩ := ins_ok s5 q0 r1
    cases ry
    refine getmeth_ok I4 e2 hc hM (qq.get.2 hn') (PySem.W.callWith_K (first := [.ref a]) (h₀ := X.base) I4.ok.mod.kin hM.kp ?_ c1 c2)
    refine sndLd es X Wx g _ h3 cpos _ s4 _ H2 _ F2 β2 (Γ.set i none) S2 _ _ I4 s5 (en'.ext x2) q1 (fun c1 S1 z => postX_ext x2 c1 S1 (hE c1 S1 z)) fun p F3 β3 S3 H3 vs xs us s6 x3 s7 r2 I6 rv hz => ?_
    refine thn ((pe_var (pos := p) hi' (g.vis _ hv) ?_ ?_).run _ s6 _ H3 (fun v H4 => v = .ref f ∧ H4 = H3) I6 ⟨.ref f, ?_, rfl, rfl⟩) fun u s8 ⟨v, H4, I8, r8, q8⟩ => ?_
    · have := (ba (ba hv).1).2; simpa using this
    · have := (ba hv).2; simpa using this
    · rw [List.getElem?_set_self (by
        have := I3.len
        rw [List.length_set] at this
        rw [this]
        exact lt_of_get hi')]
    · obtain ⟨ev, eH⟩ := q8
      subst ev
      subst eH
      cases r8
      obtain ⟨f1, f2, f3, f4, _⟩ := I8.pin _ (List.mem_append_right _ List.mem_cons_self)
      have f5 : f ∉ frs X.stack := by
        rw [hst]
        unfold frs
        rw [List.filterMap_cons, hfr]
        intro z
        rcases List.mem_cons.mp z with z | z
        · exact f3 z
        · exact f4 z
      obtain ⟨base, e0, hup⟩ := fn_base g hk (fun e => by rw [e] at hm; cases hm) I8 exw f1 f2 f5
      refine ⟨I8.kIn, ?_⟩
      obtain ⟨_, d', a', fd', hd', hM', hb', hF'⟩ := hup.2 _ (meth_mem hl')
      have ea : a' = fa := by
        have := hM'.at_.symm.trans hM.at_
        simpa using this
      subst ea
      have x5 := x2.trans x3
      have x6 := x1.trans x5
      refine thn (run_hand hF' ((g.room hh).mono (by omega)) hb' (passAt g.tk _) I8 e0 (us := Value.ref a :: (us ++ [Value.ref f])) (xs := V.ref a :: (xs ++ [V.ref f])) (Q := D.rt) (Paired.cons (show L2.RelV (V.ref a) (Value.ref a) from rfl) (rv.append (Paired.cons (show L2.RelV (V.ref f) (Value.ref f) from rfl) .nil))) ⟨F3, β3, S3, .loc n :: (vs ++ [.fnv ⟨f, c', id, q, xw⟩ ws]), s7, VRs.mk (v := .loc n) ⟨a, rfl, pre_get x3.pre tt⟩ (VRs.append r2 (VRs.one (v := .fnv ⟨f, c', id, q, xw⟩ ws) ⟨rfl, x5.sub _ _ hc1, rw.ext x5⟩)), (orcE_mono T k cur).runC _ _ _ _ _ _ _ _ (fun _ _ z => post_ext x6 z) (fun c1 S1 z => postX_ext x5 c1 S1 (hE c1 S1 z)) (show (orcE T k cur).runC ⟨f, c', id, q, xw⟩ ky (Va.loc n :: (vs ++ [Va.fnv ⟨f, c', id, q, xw⟩ ws])) S3 _ _ from hz ⟨f, c', id, q, xw⟩ rfl)⟩) fun u s9 ⟨v, H9, I9, r9, q9⟩ => ⟨v, _, H9, back I9, r9, q9⟩
mutual
theorem sndS : ∀ (m : Sm) (c : Ctx) (cur : Option (Addr × Str)) (X : Cx) (Wx : WX), Gd c cA T k cur Wx X → X.stack = X.env :: X.outer → X.env.frame = some X.env.locals → ∀ (st : Stmt), ckS c m st = true → PS X st (liftS X.K cA Wx (WS (orcE T k cur) m))
  | .set i e, c, cur, X, Wx, g, hst, hfr, st, h => by
    simp only [ckS] at h
    split at h
    · obtain ⟨h, h4⟩ := ba h
      obtain ⟨h, h3⟩ := ba h
      obtain ⟨h1, h2⟩ := ba h
      obtain ⟨hl, hf⟩ := g.loc _ h2
      refine (ps_set (i := i) g.nd (by rw [g.hN]; exact of_decide_eq_true h1) hl (sndE _ e X Wx g _ h3) (noSwap_sw (by rw [g.sc]; exact h4) _) hf).weak fun D σ H ⟨F, β, Γ, S, s, en, q⟩ => ?_
      refine runE (orcE_mono T k cur) s en q (ex_post en) fun F1 β1 S1 H1 v x e1 s1 r1 q1 => ?_
      exact q1 F1 β1 H1 _ e1 s1 ((en.ext e1).set r1)
    · cases h
  | .ret e, c, cur, X, Wx, g, hst, hfr, st, h => by
    simp only [ckS] at h
    split at h
    · refine (ps_ret (sndE _ e X Wx g _ h)).weak fun D σ H ⟨F, β, Γ, S, s, en, q⟩ => ?_
      refine runE (orcE_mono T k cur) s en q (ex_post en) fun F1 β1 S1 H1 v x e1 s1 r1 q1 => ?_
      exact q1 F1 β1 H1 _ e1 s1 r1
    · cases h
  | .retN, c, cur, X, Wx, g, hst, hfr, st, h => by
    simp only [ckS] at h
    split at h
    · exact ps_retN.weak fun D σ H ⟨F, β, Γ, S, s, en, q⟩ => q F β H _ (Ext.refl _ _) s rfl
    · cases h
  | .pass, c, cur, X, Wx, g, hst, hfr, st, h => by
    simp only [ckS] at h
    exact pass_str (fun pos => ps_pass.weak fun D σ H ⟨F, β, Γ, S, s, en, q⟩ => q F β H _ (Ext.refl _ _) s en) (fun x j p p' => ps_doc.weak fun D σ H ⟨F, β, Γ, S, s, en, q⟩ => q F β H _ (Ext.refl _ _) s en) h
  | .brk, c, cur, X, Wx, g, hst, hfr, st, h => by
    simp only [ckS] at h
    split at h
    · exact ps_break.weak fun D σ H ⟨F, β, Γ, S, s, en, q⟩ => q F β H _ (Ext.refl _ _) s en
    · cases h
  | .cont, c, cur, X, Wx, g, hst, hfr, st, h => by
    simp only [ckS] at h
    split at h
    · exact ps_continue.weak fun D σ H ⟨F, β, Γ, S, s, en, q⟩ => q F β H _ (Ext.refl _ _) s en
    · cases h
  | .drop e, c, cur, X, Wx, g, hst, hfr, st, h => by
    simp only [ckS] at h
    split at h
    · obtain ⟨h1, h2⟩ := ba h
      refine (ps_expr (sndE _ e X Wx g _ h1) (noComp_sw h2 _ _ _)).weak fun D σ H ⟨F, β, Γ, S, s, en, q⟩ => ?_
      refine runE (orcE_mono T k cur) s en q (ex_post en) fun F1 β1 S1 H1 v x e1 s1 r1 q1 => ?_
      exact q1 F1 β1 H1 _ e1 s1 (en.ext e1)
    · cases h
  | .ite t a b, c, cur, X, Wx, g, hst, hfr, st, h => by
    simp only [ckS] at h
    split at h
    · obtain ⟨h, h3⟩ := ba h
      obtain ⟨h1, h2⟩ := ba h
      refine (ps_if (sndT _ t X Wx g _ h1) (sndSs a c cur X Wx g hst hfr _ h2) (sndSs b c cur X Wx g hst hfr _ h3)).weak fun D σ H ⟨F, β, Γ, S, s, en, q⟩ => ?_
      refine runT (orcE_mono T k cur) s en q (ex_post en) fun F1 β1 S1 H1 v e1 s1 q1 => ?_
      cases v with
      | true => exact ⟨F1, β1, Γ, S1, s1, en.ext e1, WSs_mono (orcE_mono T k cur) a _ _ _ _ (ends_ext e1) q1⟩
      | false => exact ⟨F1, β1, Γ, S1, s1, en.ext e1, WSs_mono (orcE_mono T k cur) b _ _ _ _ (ends_ext e1) q1⟩
    · cases h
  | .whil t b, c, cur, X, Wx, g, hst, hfr, st, h => by
    simp only [ckS] at h
    split at h
    · obtain ⟨h, hh⟩ := ba h
      have hh : c.hot = false := by simpa using hh
      obtain ⟨h1, h2⟩ := ba h
      refine (ps_while (g.pass hh) (sndT _ t X Wx g _ h1) (sndSs b c cur X Wx g hst hfr _ h2)).weak fun D σ H ⟨F, β, Γ, S, s, en, n, q⟩ => ?_
      refine ⟨fun m σ H => ∃ F' β' Γ S, Ext F β F' β' ∧ Sim X.K cA F' β' S H ∧ EnvR X.K F' β' Γ σ ∧
        whN (fun Γ S P => WT (orcE T k cur) t Γ S P (fun x S1 => (ends X.K cA Wx F β D).ex x Γ S1)) (fun Nx Γ S => WSs (orcE T k cur) b { ends X.K cA Wx F β D with nx := Nx, ct := Nx, bk := (ends X.K cA Wx F β D).nx } Γ S) (ends X.K cA Wx F β D).nx m Γ S,
        ⟨n, F, β, Γ, S, Ext.refl _ _, s, en, q⟩, ?_⟩
      rintro m σ H ⟨F1, β1, Γ, S, e1, s1, en1, q⟩
      cases m with
      | zero => exact q.elim
      | succ m =>
        refine runT (orcE_mono T k cur) s1 en1 q (fun c' S' z => ex_post (D := D) en1 c' S' (postG_ext e1 _ _ z)) fun F2 β2 S2 H2 v e2 s2 q2 => ?_
        cases v with
        | false => exact q2 F2 β2 H2 _ (e1.trans e2) s2 (en1.ext e2)
        | true =>
          refine ⟨_, fun σ' H' z => ⟨m, Nat.lt_succ_self m, z⟩, F2, β2, Γ, S2, s2, en1.ext e2, ?_⟩
          refine WSs_mono (orcE_mono T k cur) b _ _ _ _ ⟨?_, fun v S h => post_ext (e1.trans e2) h, postG_ext (e1.trans e2), ?_, fun c => postG_ext (e1.trans e2)⟩ q2
          · exact fun Γ3 S3 z F3 β3 H3 σ3 e3 s3 g3 => ⟨F3, β3, Γ3, S3, e1.trans (e2.trans e3), s3, g3, z⟩
          · exact fun Γ3 S3 z F3 β3 H3 σ3 e3 s3 g3 => ⟨F3, β3, Γ3, S3, e1.trans (e2.trans e3), s3, g3, z⟩
    · cases h
  | .raise x, c, cur, X, Wx, g, hst, hfr, st, h => by
    simp only [ckS] at h
    split at h
    · obtain ⟨h, hh⟩ := ba h
      have hh : c.hot = false := by simpa using hh
      obtain ⟨h, h3⟩ := ba h
      obtain ⟨h1, h2⟩ := ba h
      have hx := of_decide_eq_true h1
      subst hx
      obtain ⟨gC, xC, kC, rC⟩ := g.exc _ (by simpa using h3)
      refine (ps_raise (g.calm hh) g.tk (pmk_own PySem.F.excBase_ValueError xC gC kC rC (g.gl _ h2) (by have := (ba (ba h2).1).2; simpa using this))).weak fun D σ H ⟨F, β, Γ, S, s, en, q⟩ => ?_
      exact q F β H _ (Ext.refl _ _) s en
    · cases h
  | .asg tg e, c, cur, X, Wx, g, hst, hfr, st, h => by
    simp only [ckS] at h
    split at h
    · obtain ⟨h, hh⟩ := ba h
      have hh : c.hot = false := by simpa using hh
      obtain ⟨h, h4⟩ := ba h
      obtain ⟨h, h3⟩ := ba h
      obtain ⟨h1, h2⟩ := ba h
      refine (ps_asg (sndE _ e X Wx g _ h2) (sndG (cA := cA) tg X g.hN g.nd g.loc (g.calm hh) _ h1) (noComp_sole h3 _ _ _) (noTup_sw h4 _)).weak fun D σ H ⟨F, β, Γ, S, s, en, q⟩ => ?_
      refine runE (orcE_mono T k cur) s en q (ex_post en) fun F1 β1 S1 H1 v x e1 s1 r1 ⟨Γ1, hb, q1⟩ => ?_
      exact ⟨F1, β1, Γ, S1, v, Γ1, s1, en.ext e1, r1, hb, fun σ' en' _ _ => q1 F1 β1 H1 _ e1 s1 en'⟩
    · cases h
  | .setSub o i e, c, cur, X, Wx, g, hst, hfr, st, h => by
    simp only [ckS] at h
    split at h
    · obtain ⟨h, h4⟩ := ba h
      obtain ⟨h, h3⟩ := ba h
      obtain ⟨h1, h2⟩ := ba h
      refine (ps_asg (sndE _ e X Wx g _ h3) (pg_sub (sndE _ o X Wx g _ h1) (sndE _ i X Wx g _ h2) (set_or (by have := g.u65; omega)) (noSlice_asg h4 _ _ _)) sub_sole rfl).weak fun D σ H ⟨F, β, Γ, S, s, en, q⟩ => ?_
      refine runE (orcE_mono T k cur) s en q (ex_post en) fun F1 β1 S1 H1 v x e1 s1 r1 q1 => ?_
      refine runE (orcE_mono T k cur) s1 (en.ext e1) q1 (fun c' S' z => postX_ext e1 c' S' (ex_post en c' S' z)) fun F2 β2 S2 H2 u y e2 s2 r2 q2 => ?_
      refine runE (orcE_mono T k cur) s2 (en.ext (e1.trans e2)) q2 (fun c' S' z => postX_ext (e1.trans e2) c' S' (ex_post en c' S' z)) fun F3 β3 S3 H3 w z e3 s3 r3 ⟨kk, eu, ob, h0, ob', hp, q3⟩ => ?_
      subst eu
      have eE := e1.trans (e2.trans e3)
      cases ob with
      | lst xs =>
        cases w with
        | int j =>
          obtain ⟨n, h6, h7⟩ := Option.map_eq_some_iff.mp hp
          subst h7
          obtain ⟨a, ys, rfl, ha, e5, q5⟩ := loc_ok s3 h0 (r2.ext e3)
          cases r3
          refine .inl ⟨a, ys, j, n, rfl, rfl, e5, by rw [← q5.len]; exact h6, ?_⟩
          exact q3 F3 β3 _ _ eE (put_lst s3 h0 ha (q5.set n (r1.ext (e2.trans e3)))) (en.ext eE)
        | _ => cases hp
      | dct kvs =>
        simp only [putO] at hp
        split at hp
        · rename_i kq hk
          split at hp
          · rename_i hl
            cases hp
            obtain ⟨a, ys, rfl, ha, _, e5, q5⟩ := dct_ok s3 h0 (r2.ext e3)
            refine .inr ⟨a, _, rfl, by rw [kV_keyV hk r3]; exact .k e5 (by rw [← q5.len]; exact Nat.lt_trans hl (by decide)), ?_⟩
            exact q3 F3 β3 _ _ eE (put_dct s3 h0 ha (q5.put (r1.ext (e2.trans e3)))) (en.ext eE)
          · cases hp
        · cases hp
      | _ => cases hp
    · cases h
  | .par i j a b, c, cur, X, Wx, g, hst, hfr, st, h => by
    simp only [ckS] at h
    split at h
    · rename_i x px y py kt pt z pz b' k2 p2 pos
      obtain ⟨h, hh⟩ := ba h
      have hh : c.hot = false := by simpa using hh
      obtain ⟨h, h11⟩ := ba h
      obtain ⟨h, h10⟩ := ba h
      obtain ⟨h, h9⟩ := ba h
      obtain ⟨h, h8⟩ := ba h
      obtain ⟨h, h7⟩ := ba h
      obtain ⟨h, h6⟩ := ba h
      obtain ⟨h, h5⟩ := ba h
      obtain ⟨h, h4⟩ := ba h
      obtain ⟨h, h3⟩ := ba h
      obtain ⟨h1, h2⟩ := ba h
      have h1 := of_decide_eq_true h1
      have h2 := of_decide_eq_true h2
      have h5 := of_decide_eq_true h5
      have h6 := of_decide_eq_true h6
      rw [← g.hN] at h1 h2
      rw [← g.sc] at h5 h6
      refine (ps_par (g.calm hh) g.nd h1 h2 (of_decide_eq_true h3) h5 h6 (pa_cons (sndE _ a X Wx g _ h8) (pa_cons (sndE _ b X Wx g _ h9) pa_nil (star_cons h10 _ _)) (star_cons rfl _ _)) (swap_par (by rw [g.sc]; exact g.kind) h5 h6 (of_decide_eq_true h4) h7 h10 (by simpa using h11)) rfl).weak fun D σ H ⟨F, β, Γ, S, s, en, q⟩ => ?_
      refine runE (orcE_mono T k cur) s en q (ex_post en) fun F1 β1 S1 H1 v x1 e1 s1 r1 q1 => ?_
      refine runE (orcE_mono T k cur) s1 (en.ext e1) q1 (fun c1 S1 z => postX_ext e1 _ _ (ex_post en c1 S1 z)) fun F2 β2 S2 H2 w x2 e2 s2 r2 q2 => ?_
      exact ⟨x1, x2, rfl, q2 F2 β2 H2 _ (e1.trans e2) s2 (((en.ext (e1.trans e2)).set (r1.ext e2)).set r2)⟩
    · cases h
  | .aug i op e, c, cur, X, Wx, g, hst, hfr, st, h => by
    simp only [ckS] at h
    split at h
    · obtain ⟨h, h4⟩ := ba h
      obtain ⟨h, h3⟩ := ba h
      obtain ⟨h1, h2⟩ := ba h
      obtain ⟨h3, h8⟩ := ba h3
      obtain ⟨hl, hf⟩ := g.loc _ h2
      have hi := of_decide_eq_true h1
      rw [← g.hN] at hi
      have key : ∀ (f : Int → Int → Int), (∀ n m : Int, augI op n m = some (f n m)) → ∀ D σ H, liftS X.K cA Wx (WS (orcE T k cur) (.aug i op e)) D σ H → tAug i (liftE X.K cA Wx (W (orcE T k cur) e)) (ipI f) D σ H := by
        rintro f hf D σ H ⟨F, β, Γ, S, s, en, x, hx, q⟩
        obtain ⟨y, e0, r⟩ := en.get hx
        refine ⟨y, e0, ?_⟩
        refine runE (orcE_mono T k cur) s en q (ex_post en) fun F1 β1 S1 H1 v z e1 s1 r1 ⟨n, ex, m, ev, r', hr, q1⟩ => ?_
        subst ex ev
        cases r; cases r1
        rw [hf] at hr
        cases hr
        exact ⟨n, m, rfl, rfl, q1 F1 β1 H1 _ e1 s1 ((en.ext e1).set (v := .int _) rfl)⟩
      cases op with
      | add =>
        unfold bopB at h3
        split at h3 <;> first | cases h3 | skip
        all_goals simp only [reduceCtorEq] at *
        exact (ps_aug (i := i) g.nd hi hl (sndE _ e X Wx g _ h4) ip_add hf).weak (key _ fun _ _ => rfl)
      | sub =>
        unfold bopB at h3
        split at h3 <;> first | cases h3 | skip
        all_goals simp only [reduceCtorEq] at *
        exact (ps_aug (i := i) g.nd hi hl (sndE _ e X Wx g _ h4) ip_sub hf).weak (key _ fun _ _ => rfl)
      | _ => simp at h8
    · cases h
  | .setC i own elt tg it cond, c, cur, X, Wx, g, hst, hfr, st, h => by
    simp only [ckS] at h
    split at h
    · rename_i x p elt' tg' it' ifs scope pos spos
      obtain ⟨hh, h⟩ := ba h
      obtain ⟨hi, hsw⟩ := ba hh
      obtain ⟨hq, hi⟩ := ba hi
      have hh : c.hot = false := by simpa using hq
      obtain ⟨h, h6⟩ := ba h
      obtain ⟨h, h5⟩ := ba h
      obtain ⟨h, h4⟩ := ba h
      obtain ⟨h, h3⟩ := ba h
      obtain ⟨h1, h2⟩ := ba h
      have hblk : BlkOk X.N X.env.scope scope (ownA c.N own) := by
        rw [g.hN, g.sc]; exact blkOk_by h1
      obtain ⟨hy, hsw2⟩ := yesSwap_sw (env := X.env) (by rw [g.sc]; exact g.kind) (by rw [g.sc]; exact hsw) spos.line
      refine (ps_setLc (i := i) (g := liftG X.K cA (tgS tg) fun S v Γ => bindT S tg v Γ) (tt := liftT X.K cA (fun _ _ _ _ => False) (fun Γ S P _ => WT0 (orcE T k cur) cond Γ S P)) (te := liftE X.K cA (fun _ _ _ _ => False) (W (orcE T k cur) elt)) (g.calm hh) g.nd (by rw [g.hN]; exact of_decide_eq_true hi) hy hsw2 (sndI _ it X Wx g _ _ h2) hblk (fun s H C cl fp => sndG tg _ (g.inn hblk.kind s H C cl fp hh).hN g.nd (g.inn hblk.kind s H C cl fp hh).loc (g.calm hh) _ h3)
        (fun s H C cl fp => sndT0 _ cond _ _ (g.inn hblk.kind s H C cl fp hh) _ h5) (fun s H C cl fp => sndE _ elt _ _ (g.inn hblk.kind s H C cl fp hh) _ h6) (ckI_fold h2 X.env)).weak fun D σ H ⟨F, β, Γ, S, s, en, q⟩ => ?_
      refine runI (orcE_mono T k cur) s en q (ex_post en) fun F1 β1 S1 H1 J xs G e1 s1 i1 ⟨q0, q1⟩ => ?_
      rw [ownA_ix]
      refine comp_ok (F := F) (β := β) (Q := fun x H' => D.nx (σ.set i (some x)) H') (orcE_mono T k cur) e1 s1 (en.ext e1) i1 ⟨q0, cpL_mono (fun Γ S P P' hp q => WT0_mono (orcE_mono T k cur) cond Γ S P P' hp q) (fun Γ S P P' hp q => W_mono (orcE_mono T k cur) elt Γ S P P' _ _ hp (fun _ _ z => z) q) (fun v S2 z => ?_) xs _ q1⟩ (fun i hi => by have := List.all_eq_true.mp h4 i hi; simpa using this)
      exact fun F' β' H' x e' s' r' => z F' β' H' _ e' s' ((en.ext e').set r')
    · cases h
  | .for_ tg it b, c, cur, X, Wx, g, hst, hfr, st, h => by
    simp only [ckS] at h
    split at h
    · obtain ⟨h, hh⟩ := ba h
      have hh : c.hot = false := by simpa using hh
      obtain ⟨h, h3⟩ := ba h
      obtain ⟨h1, h2⟩ := ba h
      refine (ps_for (g.pass hh) (g.calm hh) (sndI _ it X Wx g _ _ h1) (sndG (cA := cA) tg X g.hN g.nd g.loc (g.calm hh) _ h2) (sndSs b c cur X Wx g hst hfr _ h3) (ckI_fold h1 X.env)).weak fun D σ H ⟨F, β, Γ, S, s, en, q⟩ => ?_
      refine runI (orcE_mono T k cur) s en q (ex_post en) fun F1 β1 S1 H1 J xs G e1 s1 i1 ⟨q0, q1⟩ => ?_
      refine ⟨fun i m σ H => m = xs.length - i ∧ i ≤ xs.length ∧ ∃ F' β' Γ S', Ext F1 β1 F' β' ∧ Sim X.K cA F' β' S' H ∧ EnvR X.K F' β' Γ σ ∧ G S' ∧
        frL (fun x Γ S => bindT S tg x Γ) (fun Nx Γ S => WSs (orcE T k cur) b { ends X.K cA Wx F β D with nx := Nx, ct := Nx, bk := (ends X.K cA Wx F β D).nx } Γ S) G (ends X.K cA Wx F β D).nx (xs.drop i) Γ S',
        ⟨xs.length, rfl, Nat.zero_le _, F1, β1, Γ, S1, Ext.refl _ _, s1, en.ext e1, q0, q1⟩, ?_⟩
      rintro i m σ H ⟨rfl, hi, F', β', Γ', S', e', s', en', g', c'⟩
      by_cases hlt : i < xs.length
      · refine .inr ⟨i1.go F' β' S' H i e' s' g' hlt, fun σ' H' => ∃ F' β' Γ S', Ext F1 β1 F' β' ∧ Sim X.K cA F' β' S' H' ∧ EnvR X.K F' β' Γ σ' ∧ G S' ∧
          frL (fun x Γ S => bindT S tg x Γ) (fun Nx Γ S => WSs (orcE T k cur) b { ends X.K cA Wx F β D with nx := Nx, ct := Nx, bk := (ends X.K cA Wx F β D).nx } Γ S) G (ends X.K cA Wx F β D).nx (xs.drop (i + 1)) Γ S',
          fun σ' H' z => ⟨xs.length - (i + 1), by omega, rfl, hlt, z⟩, fun x H' hy => ?_⟩
        obtain ⟨F2, v, hv, e2, s2, r2⟩ := i1.yld F' β' S' H i x H' e' s' g' hlt hy
        have hd : xs.drop i = v :: xs.drop (i + 1) := by
          rw [List.drop_eq_getElem_cons hlt]
          rw [List.getElem?_eq_getElem hlt] at hv
          cases hv; rfl
        rw [hd] at c'
        obtain ⟨Γ1, hb, ht⟩ := c'
        refine ⟨F2, β', Γ', S', v, Γ1, s2, en'.ext e2, r2, hb, fun σ2 en2 _ _ => ⟨F2, β', Γ1, S', s2, en2, ?_⟩⟩
        have eF : Ext F β F2 β' := e1.trans (e'.trans e2)
        refine WSs_mono (orcE_mono T k cur) b _ _ _ _ ⟨?_, fun v S h => post_ext eF h, postG_ext eF, ?_, fun c => postG_ext eF⟩ ht
        · exact fun Γ3 S3 z F3 β3 H3 σ3 e3 s3 g3 => ⟨F3, β3, Γ3, S3, (e'.trans e2).trans e3, s3, g3, z.1, z.2⟩
        · exact fun Γ3 S3 z F3 β3 H3 σ3 e3 s3 g3 => ⟨F3, β3, Γ3, S3, (e'.trans e2).trans e3, s3, g3, z.1, z.2⟩
      · have ei : i = xs.length := by omega
        subst ei
        refine .inl ⟨i1.stop F' β' S' H e' s' g', ?_⟩
        rw [List.drop_length] at c'
        exact c' F' β' H σ (e1.trans e') s' en'
    · cases h
  | .setFld o f e, c, cur, X, Wx, g, hst, hfr, st, h => by
    simp only [ckS] at h
    split at h
    · obtain ⟨h, h3⟩ := ba h
      obtain ⟨h1, h2⟩ := ba h
      have hx := of_decide_eq_true h1
      subst hx
      refine (ps_fld (sndE _ o X Wx g _ h2) (sndE _ e X Wx g _ h3) att_sw).weak fun D σ H ⟨F, β, Γ, S, s, en, q⟩ => ?_
      refine runE (orcE_mono T k cur) s en q (ex_post en) fun F1 β1 S1 H1 v x e1 s1 r1 q1 => ?_
      refine runE (orcE_mono T k cur) s1 (en.ext e1) q1 (fun c' S' z => postX_ext e1 c' S' (ex_post en c' S' z)) fun F2 β2 S2 H2 u y e2 s2 r2 ⟨kk, eu, ob, h0, ob', hp, q2⟩ => ?_
      subst eu
      obtain ⟨cc, fs, rfl, rfl, hn, hl⟩ := putFO_ok hp
      obtain ⟨hc, hn⟩ := g.noat _ (noat_mem hn)
      obtain ⟨a, dx, ys, rfl, ha, _, e5, q5⟩ := ins_ok s2 h0 r2
      have eE := e1.trans e2
      exact ⟨a, _, dx, ys, rfl, e5, hc, hn, by rw [← q5.len]; exact hl, q2 F2 β2 _ _ eE (put_ins s2 h0 ha (q5.put (r1.ext e2))) (en.ext eE)⟩
    · cases h
  | .augFld o f op e, c, cur, X, Wx, g, hst, hfr, st, h => by
    simp only [ckS] at h
    split at h
    · obtain ⟨h, h4⟩ := ba h
      obtain ⟨h, h3⟩ := ba h
      obtain ⟨h1, h2⟩ := ba h
      have hx := of_decide_eq_true h1
      subst hx
      by_cases hop : op = .add
      · subst hop
        unfold bopB at h2
        split at h2 <;> first | cases h2 | skip
        all_goals simp only [reduceCtorEq] at *
        refine (ps_fldaug (sndE _ o X Wx g _ h3) (sndE _ e X Wx g _ h4) in_add).weak fun D σ H ⟨F, β, Γ, S, s, en, _, q⟩ => ?_
        refine runE (orcE_mono T k cur) s en q (ex_post en) fun F1 β1 S1 H1 u y e1 s1 r1 ⟨kk, eu, ob, h0, w, hw, q1⟩ => ?_
        subst eu
        obtain ⟨cc, fs, rfl, hn, hl⟩ := fldO_ok hw
        obtain ⟨hc, hn'⟩ := g.noat _ (noat_mem hn)
        obtain ⟨a, dx, ys, rfl, ha, _, e5, q5⟩ := ins_ok s1 h0 r1
        obtain ⟨z, hz, rz⟩ := q5.get.1 w hl
        refine ⟨a, _, dx, ys, z, rfl, e5, hc, hn', hz, ?_⟩
        refine runE (orcE_mono T k cur) s1 (en.ext e1) q1 (fun c' S' z => postX_ext e1 c' S' (ex_post en c' S' z)) fun F2 β2 S2 H2 v x e2 s2 r2 ⟨n, e6, m, e7, ob2, h8, ec, ob', hp, q2⟩ => ?_
        subst e6 e7
        cases rz; cases r2
        obtain ⟨cc2, fs2, rfl, rfl, hn2, hl2⟩ := putFO_ok hp
        obtain ⟨a2, dx2, ys2, ea, ha2, _, e9, q9⟩ := ins_ok s2 h8 (x := .ref a) ⟨a, rfl, pre_get e2.pre ha⟩
        cases ea
        have eE := e1.trans e2
        have eC : cA cc2 = cA cc := congrArg cA ec
        refine ⟨n, m, rfl, rfl, dx2, ys2, by rw [e9, eC], by rw [← q9.len]; exact hl2, ?_⟩
        have := q2 F2 β2 _ _ eE (put_ins (dx := dx2) s2 h8 ha2 (q9.put (v := .int (n + m)) (y := .int (n + m)) rfl)) (en.ext eE)
        rw [← eC]; exact this
      · exact ⟨fun pins s σ H D I ⟨F, β, Γ, S, si, en, q0, q⟩ => absurd q0 hop⟩
    · cases h
  | .lck m, c, cur, X, Wx, g, hst, hfr, st, h => by
    simp only [ckS] at h
    refine (ps_lock (sndS m c cur X Wx g hst hfr _ h)).weak fun D σ H ⟨F, β, Γ, S, s, en, kk, kvs, hk, q⟩ => ?_
    obtain ⟨a, ha, fa, ys, e2, qq⟩ := s.at hk
    refine ⟨a, .dK ys, e2, trivial, fun od => ?_⟩
    obtain ⟨s1, sb⟩ := s.lock (od := od) (lt_of_get hk) ha fa qq (by rw [e2]; simp)
    have x1 : Ext F β (upd F a (.frz od (.dK ys))) β := ⟨sb, List.prefix_refl _⟩
    have key : ∀ {F2 β2 S2 H2}, Ext (upd F a (.frz od (.dK ys))) β F2 β2 → Sim X.K cA F2 β2 S2 H2 → S2[kk]? = some (.lok kvs) → H2 a = some (.frz od (.dK ys)) ∧ Ext F β (dropF F2 a) β2 ∧ Sim X.K cA (dropF F2 a) β2 (S2.set kk (.dct kvs)) (upd H2 a (.dK ys)) ∧ KeepF F2 (dropF F2 a) := fun {F2 β2 S2 H2} e3 s2 h3 => by
      have f2 := e3.sub a _ upd_same
      obtain ⟨s3, kf⟩ := s2.unlock h3 (pre_get e3.pre ha) f2
      exact ⟨s2.sub a _ f2, ext_drop fa (x1.trans e3), s3, kf⟩
    refine ⟨_, β, Γ, _, s1, en.ext x1, WS_mono (orcE_mono T k cur) m (lckD kk kvs (ends X.K cA Wx F β D)) _ _ _ ⟨?_, ?_, ?_, ?_, fun _ _ _ z => False.elim z⟩ q⟩
    · exact fun Γ2 S2 ⟨h3, q3⟩ F2 β2 H2 σ2 e3 s2 g2 => let ⟨z1, z2, z3, kf⟩ := key e3 s2 h3; ⟨z1, q3 _ _ _ _ z2 z3 (EnvR.unf kf _ _ g2)⟩
    · exact fun v S2 ⟨h3, q3⟩ F2 β2 H2 x e3 s2 r2 => let ⟨z1, z2, z3, kf⟩ := key e3 s2 h3; ⟨z1, q3 _ _ _ _ z2 z3 (VR.unf kf _ _ r2)⟩
    · exact fun Γ2 S2 ⟨h3, q3⟩ F2 β2 H2 σ2 e3 s2 g2 => let ⟨z1, z2, z3, kf⟩ := key e3 s2 h3; ⟨z1, q3 _ _ _ _ z2 z3 (EnvR.unf kf _ _ g2)⟩
    · exact fun Γ2 S2 ⟨h3, q3⟩ F2 β2 H2 σ2 e3 s2 g2 => let ⟨z1, z2, z3, kf⟩ := key e3 s2 h3; ⟨z1, q3 _ _ _ _ z2 z3 (EnvR.unf kf _ _ g2)⟩
  | .try_ b x o su, c, cur, X, Wx, g, hst, hfr, st, h => by
    simp only [ckS] at h
    split at h
    · rename_i bd y np nm s0 ss hp pos
      obtain ⟨h, hh⟩ := ba h
      have hh : c.hot = false := by simpa using hh
      obtain ⟨h, h5⟩ := ba h
      obtain ⟨h, h4⟩ := ba h
      obtain ⟨h, h3⟩ := ba h
      obtain ⟨h1, h2⟩ := ba h
      have hx := of_decide_eq_true h1
      subst hx
      have hdb : (y == ("__debug__" : Str)) = false := by have := (ba (ba h2).1).2; simpa using this
      by_cases hcl : ∃ p ∈ T.xk, p.2.1 = y
      · obtain ⟨p0, hp0, ey⟩ := hcl
        obtain ⟨w0, cv, k1, k2, _, _, _⟩ := g.xk p0 hp0
        rw [ey] at k2
        have hNm : Names X y cv := ⟨g.gl _ h2, hdb, k2⟩
        have hex : ∀ {c' : Str} {kk : Bool}, (orcE T k cur).xk c' y = some kk → PySem.W.exmOne X.K (.ref (cA c')) cv = some kk := fun {c' kk} hk => by
          obtain ⟨w, cv', j1, j2, j3, j4, j5⟩ := g.xk _ (xk_mem hk)
          have : cv' = cv := by
            rcases j2 with j2 | ⟨j2, j2', _⟩ <;> rcases k2 with k2 | ⟨k2, k2', _⟩
            · exact Option.some.inj (j2.symm.trans k2)
            · rw [k2] at j2; cases j2
            · rw [k2] at j2; cases j2
            · exact Option.some.inj (j2'.symm.trans k2')
          rw [this] at j5
          exact j5
        have hbd : ∀ (W : WX) (pn : List (Addr × Obj)) (xe : Value → Shared → Prop), Takes (X.tr pn xe) W → PassesOwn (model X.prog X.w) X.A X.env xe → PSs (X.tr pn xe) bd (liftS X.K cA W (WSs (orcE T k cur) b)) := fun W pn xe tk pa =>
          sndSs b c cur (X.tr pn xe) W ⟨g.hN, g.nd, g.sc, g.kind, g.loc, g.calm, g.room, g.un, tk, fun _ => pa, g.nc, (fun a z e => by rw [g.nc hh] at e; cases e), g.xk, g.blt, g.fn, g.exc, g.glo, g.noat, g.meth, g.init, g.isa, g.gdc, g.dfl, g.mkr, g.lam, g.fnall, g.ndk, g.clo, g.up⟩ hst hfr bd h3
        have hsu : ∀ (a : Addr) (oe : Obj) (cls : Value) (d : Option Addr) (pn : List (Addr × Obj)), Zc cls d oe → (∃ vs, oe.data = .fields vs) → PSs (X.suite a ((a, oe) :: pn)) (s0 :: ss) (fun D σ H => d = none ∧ ∃ c', cls = .ref (cA c') ∧ liftS X.K cA (fun _ _ _ _ => False) (WSs (orcE T k (some (a, c'))) su) D σ H) := fun a oe cls d pn hz hf =>
          ⟨fun pins s σ H D I ⟨ed, c', ec, q⟩ => by
            subst ed ec
            exact (sndSs su { c with hot := true } (some (a, c')) (X.suite a ((a, oe) :: pn)) (fun _ _ _ _ => False) ⟨g.hN, g.nd, g.sc, g.kind, g.loc, fun z => (nomatch z), fun z => (nomatch z), g.un, (by
              rintro u s' ⟨_, _, _, _, _, _, _, _, _, _, _, _, _, _, _, _, z⟩
              exact z.elim), fun z => (nomatch z), fun z => (nomatch z), fun a2 z e => by
                cases e
                exact ⟨oe, List.mem_cons_self, hz, hf⟩, g.xk, g.blt, g.fn, g.exc, g.glo, g.noat, g.meth, g.init, g.isa, g.gdc, g.dfl, g.mkr, g.lam, g.fnall, g.ndk, g.clo, g.up⟩ hst hfr (s0 :: ss) h4).run pins s σ H D I q⟩
        cases o with
        | none =>
          cases nm with
          | some n => cases h5
          | none =>
            refine (ps_try_only hst hfr hNm g.tk hbd hsu).weak fun D σ H ⟨F, β, Γ, S, s, en, q⟩ => ?_
            refine ⟨F, β, Γ, S, s, en, WSs_mono (orcE_mono T k cur) b ({ ends X.K cA Wx F β D with ex := fun c' Γ' S' => ∃ kk, (orcE T k cur).xk c' y = some kk ∧ if kk = true then ∀ a, WSs { orcE T k cur with cur := some (a, c') } su (offD none (ends X.K cA Wx F β D)) (onE none a Γ') S' else (ends X.K cA Wx F β D).ex c' Γ' S' }) _ _ _ ⟨fun _ _ z => z, fun _ _ z => z, fun _ _ z => z, fun _ _ z => z, fun c' Γ' S' ⟨kk, h6, h7⟩ => ?_⟩ q⟩
            intro F' β' H' σ' e' s' g'
            refine ⟨kk, hex h6, fun ek a ha => ?_, fun ek => ?_⟩
            · subst ek
              exact ⟨rfl, c', rfl, F', β', Γ', S', s', g', WSs_mono (orcE_mono T k _) su _ _ _ _ ⟨fun Γ2 S2 z => postG_ext e' _ _ z, fun v S2 z => post_ext e' z, fun Γ2 S2 z => postG_ext e' _ _ z, fun Γ2 S2 z => postG_ext e' _ _ z, fun _ _ _ z => False.elim z⟩ (h7 a)⟩
            · subst ek
              exact h7 F' β' H' σ' e' s' g'
        | some i =>
          cases nm with
          | none => cases h5
          | some n =>
            obtain ⟨j1, j2⟩ := ba h5
            have hi : X.N[i]? = some n := by rw [g.hN]; exact of_decide_eq_true j1
            have hl : X.env.kindOf n = some .local := by
              show X.env.scope.names.lookup n = _
              rw [g.sc]; exact of_decide_eq_true j2
            refine (ps_try_as hst hfr g.nd hi hl hNm g.tk hbd hsu).weak fun D σ H ⟨F, β, Γ, S, s, en, q⟩ => ?_
            refine ⟨F, β, Γ, S, s, en, WSs_mono (orcE_mono T k cur) b ({ ends X.K cA Wx F β D with ex := fun c' Γ' S' => ∃ kk, (orcE T k cur).xk c' y = some kk ∧ if kk = true then ∀ a, WSs { orcE T k cur with cur := some (a, c') } su (offD (some i) (ends X.K cA Wx F β D)) (onE (some i) a Γ') S' else (ends X.K cA Wx F β D).ex c' Γ' S' }) _ _ _ ⟨fun _ _ z => z, fun _ _ z => z, fun _ _ z => z, fun _ _ z => z, fun c' Γ' S' ⟨kk, h6, h7⟩ => ?_⟩ q⟩
            intro F' β' H' σ' e' s' g'
            refine ⟨kk, hex h6, fun ek a ha => ?_, fun ek => ?_⟩
            · subst ek
              refine ⟨rfl, c', rfl, F', β', Γ'.set i (some (.exc a)), S', s', g'.set rfl, WSs_mono (orcE_mono T k _) su _ _ _ _ ⟨fun Γ2 S2 z F3 β3 H3 σ3 e3 s3 g3 => ?_, fun v S2 z => post_ext e' z, fun Γ2 S2 z F3 β3 H3 σ3 e3 s3 g3 => ?_, fun Γ2 S2 z F3 β3 H3 σ3 e3 s3 g3 => ?_, fun _ _ _ z => False.elim z⟩ (h7 a)⟩
              · exact z F3 β3 H3 _ (e'.trans e3) s3 g3.wipe1
              · exact z F3 β3 H3 _ (e'.trans e3) s3 g3.wipe1
              · exact z F3 β3 H3 _ (e'.trans e3) s3 g3.wipe1
            · subst ek
              exact h7 F' β' H' σ' e' s' g'
      · have hnone : ∀ c', (orcE T k cur).xk c' y = none := fun c' => by
          cases e : (orcE T k cur).xk c' y with
          | none => rfl
          | some kk => exact absurd ⟨_, xk_mem e, rfl⟩ hcl
        have hbd : PSs X.nox bd (liftS X.K cA (fun _ _ _ _ => False) (WSs (orcE T k cur) b)) :=
          sndSs b c cur X.nox (fun _ _ _ _ => False) ⟨g.hN, g.nd, g.sc, g.kind, g.loc, g.calm, g.room, g.un, (by
            rintro u s' ⟨_, _, _, _, _, _, _, _, _, _, _, _, _, _, _, _, z⟩
            exact z.elim), fun _ => PassesOwn.never, g.nc, (fun a z e => by rw [g.nc hh] at e; cases e), g.xk, g.blt, g.fn, g.exc, g.glo, g.noat, g.meth, g.init, g.isa, g.gdc, g.dfl, g.mkr, g.lam, g.fnall, g.ndk, g.clo, g.up⟩ hst hfr bd h3
        refine (ps_try_thru0 hbd).weak fun D σ H ⟨F, β, Γ, S, s, en, q⟩ => ?_
        refine ⟨F, β, Γ, S, s, en, WSs_mono (orcE_mono T k cur) b ({ ends X.K cA Wx F β D with ex := fun c' Γ' S' => ∃ kk, (orcE T k cur).xk c' y = some kk ∧ if kk = true then ∀ a, WSs { orcE T k cur with cur := some (a, c') } su (offD o (ends X.K cA Wx F β D)) (onE o a Γ') S' else (ends X.K cA Wx F β D).ex c' Γ' S' }) _ _ _ ⟨fun _ _ z => z, fun _ _ z => z, fun _ _ z => z, fun _ _ z => z, fun c' Γ' S' ⟨kk, h6, h7⟩ => ?_⟩ q⟩
        rw [hnone] at h6
        cases h6
    · cases h
theorem sndSs : ∀ (m : Sms) (c : Ctx) (cur : Option (Addr × Str)) (X : Cx) (Wx : WX), Gd c cA T k cur Wx X → X.stack = X.env :: X.outer → X.env.frame = some X.env.locals → ∀ (st : List Stmt), ckSs c m st = true → PSs X st (liftS X.K cA Wx (WSs (orcE T k cur) m))
  | .nil, c, cur, X, Wx, g, hst, hfr, st, h => by
    simp only [ckSs] at h
    split at h
    · exact pss_nil.weak fun D σ H ⟨F, β, Γ, S, s, en, q⟩ => q F β H _ (Ext.refl _ _) s en
    · cases h
  | .cons m ms, c, cur, X, Wx, g, hst, hfr, st, h => by
    simp only [ckSs] at h
    split at h
    · obtain ⟨h1, h2⟩ := ba h
      refine (pss_cons (sndS m c cur X Wx g hst hfr _ h1) (sndSs ms c cur X Wx g hst hfr _ h2)).weak fun D σ H ⟨F, β, Γ, S, s, en, q⟩ => ?_
      refine ⟨F, β, Γ, S, s, en, WS_mono (orcE_mono T k cur) m { ends X.K cA Wx F β D with nx := fun Γ S => WSs (orcE T k cur) ms (ends X.K cA Wx F β D) Γ S } (ends X.K cA Wx F β { D with nx := liftS X.K cA Wx (WSs (orcE T k cur) ms) D }) _ _ ⟨?_, fun _ _ z => z, fun _ _ z => z, fun _ _ z => z, fun _ _ _ z => z⟩ q⟩
      exact fun Γ1 S1 z F1 β1 H1 σ1 e1 s1 g1 => ⟨F1, β1, Γ1, S1, s1, g1, WSs_mono (orcE_mono T k cur) ms _ _ _ _ (ends_ext e1) z⟩
    · cases h
  | .mkfn i id q js, c, cur, X, Wx, g, hst, hfr, st, h => ⟨fun pins s σ H D I ⟨_, _, _, _, _, _, q⟩ => q.elim⟩
  | .defret i o m es id q js, c, cur, X, Wx, g, hst, hfr, st, h => by
    simp only [ckSs] at h
    split at h
    · rename_i name params body scope name2 pos o' nm apos es' cpos rpos
      exact defret_ok g hst hfr h
    · cases h
end
end

/-! ### the store cut -/
section
variable {K : PySem.W.Frag} {F F' : Hp} {β : List Addr}
mutual
theorem VR.cl : ∀ (v : Va) (x : V), VR K F β v x → Cl β.length v
  | .exc _, _, _ => trivial
  | .fnv z ws, _, ⟨_, _, r⟩ => VRs.cl ws z.xs r
  | .non, _, _ => trivial
  | .bl _, _, _ => trivial
  | .int _, _, _ => trivial
  | .str _, _, _ => trivial
  | .scr _, _, _ => trivial
  | .tup xs, _, ⟨_, ys, _, _, r⟩ => VRs.cl xs ys r
  | .lst xs, _, ⟨_, ys, _, _, r⟩ => VRs.cl xs ys r
  | .dct xs, _, ⟨_, ys, _, _, r⟩ => VRk.cl xs ys r
  | .loc n, _, ⟨_, _, r⟩ => lt_of_get r
theorem VRs.cl : ∀ (v : List Va) (x : List V), VRs K F β v x → Cls_ β.length v
  | [], _, _ => trivial
  | v :: vs, _, ⟨y, r, _, q, qs⟩ => ⟨VR.cl v y q, VRs.cl vs r qs⟩
theorem VRk.cl : ∀ (v : List (Key × Va)) (x : List (Key × V)), VRk K F β v x → Clk β.length v
  | [], _, _ => trivial
  | (k, v) :: vs, _, ⟨y, r, _, q, qs⟩ => ⟨VR.cl v y q, VRk.cl vs r qs⟩
end
theorem VRf.cl : ∀ (v : List (Str × Va)) (x : List (Str × V)), VRf K F β v x → Clf β.length v
  | [], _, _ => trivial
  | (k, v) :: vs, _, ⟨y, r, _, q, qs⟩ => ⟨VR.cl v y q, VRf.cl vs r qs⟩
theorem OR.cl {cA : Str → Addr} {H : Hp} : ∀ (o : Ob) (a : Addr), OR K F β cA H o a → ClO β.length o
  | .lst xs, _, ⟨ys, _, r⟩ => VRs.cl xs ys r
  | .dct xs, _, ⟨ys, _, r⟩ => VRk.cl xs ys r
  | .ins C fs, _, ⟨_, ys, _, r⟩ => VRf.cl fs ys r
  | .lok xs, _, ⟨_, ys, _, r⟩ => VRk.cl xs ys r
  | .dead, _, _ => trivial
  | .tab _, _, _ => trivial
theorem take_get {n i : Nat} {a : Addr} (h : β[i]? = some a) (hi : i < n) : (β.take n)[i]? = some a := by
  rw [List.getElem?_take, if_pos hi]; exact h
section
variable {n : Nat} (hF : Same F F')
include hF
mutual
theorem VR.cut : ∀ (v : Va) (x : V), VR K F β v x → Cl n v → VR K F' (β.take n) v x
  | .exc _, _, q, _ => q
  | .fnv z ws, _, ⟨e, q, r⟩, h => ⟨e, hF _ _ q, VRs.cut ws z.xs r h⟩
  | .non, _, q, _ => q
  | .bl _, _, q, _ => q
  | .int _, _, q, _ => q
  | .str _, _, q, _ => q
  | .tup xs, _, ⟨a, ys, e, t, r⟩, h => ⟨a, ys, e, SqT.mono hF t, VRs.cut xs ys r h⟩
  | .lst xs, _, ⟨a, ys, e, t, r⟩, h => ⟨a, ys, e, hF _ _ t, VRs.cut xs ys r h⟩
  | .dct xs, _, ⟨a, ys, e, t, r⟩, h => ⟨a, ys, e, hF _ _ t, VRk.cut xs ys r h⟩
  | .scr ns, _, ⟨a, e, t⟩, _ => ⟨a, e, SqL.mono hF t⟩
  | .loc k, _, ⟨a, e, r⟩, h => ⟨a, e, take_get r h⟩
theorem VRs.cut : ∀ (v : List Va) (x : List V), VRs K F β v x → Cls_ n v → VRs K F' (β.take n) v x
  | [], _, q, _ => q
  | v :: vs, _, ⟨y, r, e, q, qs⟩, ⟨h, hs⟩ => ⟨y, r, e, VR.cut v y q h, VRs.cut vs r qs hs⟩
theorem VRk.cut : ∀ (v : List (Key × Va)) (x : List (Key × V)), VRk K F β v x → Clk n v → VRk K F' (β.take n) v x
  | [], _, q, _ => q
  | (k, v) :: vs, _, ⟨y, r, e, q, qs⟩, ⟨h, hs⟩ => ⟨y, r, e, VR.cut v y q h, VRk.cut vs r qs hs⟩
end
theorem VRf.cut : ∀ (v : List (Str × Va)) (x : List (Str × V)), VRf K F β v x → Clf n v → VRf K F' (β.take n) v x
  | [], _, q, _ => q
  | (k, v) :: vs, _, ⟨y, r, e, q, qs⟩, ⟨h, hs⟩ => ⟨y, r, e, VR.cut hF v y q h, VRf.cut vs r qs hs⟩
theorem OR.cut {cA : Str → Addr} {H : Hp} : ∀ (o : Ob) (a : Addr), OR K F β cA H o a → ClO n o → OR K F' (β.take n) cA H o a
  | .lst xs, _, ⟨ys, e, r⟩, h => ⟨ys, e, VRs.cut hF xs ys r h⟩
  | .dct xs, _, ⟨ys, e, r⟩, h => ⟨ys, e, VRk.cut hF xs ys r h⟩
  | .ins C fs, _, ⟨dx, ys, e, r⟩, h => ⟨dx, ys, e, VRf.cut hF fs ys r h⟩
  | .lok xs, _, ⟨od, ys, e, r⟩, h => ⟨od, ys, hF _ _ e, VRk.cut hF xs ys r h⟩
  | .dead, _, _, _ => trivial
  | .tab _, _, ⟨e0, ps, e1, tt, r⟩, _ => ⟨e0, ps, e1, tt, fun p cv z => let ⟨c, e2, e3⟩ := r p cv z; ⟨c, e2, hF _ _ e3⟩⟩
end
end
section
variable {K : PySem.W.Frag} {cA : Str → Addr} {F : Hp} {β : List Addr} {S : Sto} {H : Hp} {n : Nat} {F' : Hp}
section
variable (s : Sim K cA F β S H) (hF : Same F F') (hK : ∀ k a, n ≤ k → β[k]? = some a → F' a = H a)
include s hF hK
mutual
theorem Fz.ok : ∀ (v' v : Va) (x : V), Fz S n v v' → VR K F β v x → VR K F' (β.take n) v' x
  | .exc _, v, x, h, r => by cases (show v = _ from h); exact r
  | .fnv z ys, v, x, ⟨xs, e, h⟩, r => by
    subst e
    obtain ⟨e, q, r⟩ := r
    exact ⟨e, hF _ _ q, Fzs.ok ys xs z.xs h r⟩
  | .non, v, x, h, r => by cases (show v = _ from h); exact r
  | .bl _, v, x, h, r => by cases (show v = _ from h); exact r
  | .int _, v, x, h, r => by cases (show v = _ from h); exact r
  | .str _, v, x, h, r => by cases (show v = _ from h); exact r
  | .tup ys, v, x, ⟨xs, e, h⟩, r => by
    subst e
    obtain ⟨a, zs, e, t, q⟩ := r
    exact ⟨a, zs, e, SqT.mono hF t, Fzs.ok ys xs zs h q⟩
  | .lst ys, v, x, ⟨xs, e, h⟩, r => by
    rcases e with e | ⟨k, e, hk, hs⟩
    · subst e
      obtain ⟨a, zs, e, t, q⟩ := r
      exact ⟨a, zs, e, hF _ _ t, Fzs.ok ys xs zs h q⟩
    · subst e
      obtain ⟨a, e, t⟩ := r
      obtain ⟨b, e1, _, zs, e2, q⟩ := s.at hs
      rw [t] at e1
      cases (Option.some.inj e1)
      exact ⟨a, zs, e, (hK k a hk t).trans e2, Fzs.ok ys xs zs h q⟩
  | .dct ys, v, x, ⟨xs, e, h⟩, r => by
    rcases e with e | ⟨k, e, hk, hs⟩
    · subst e
      obtain ⟨a, zs, e, t, q⟩ := r
      exact ⟨a, zs, e, hF _ _ t, Fzk.ok ys xs zs h q⟩
    · subst e
      obtain ⟨a, e, t⟩ := r
      obtain ⟨b, e1, _, zs, e2, q⟩ := s.at hs
      rw [t] at e1
      cases (Option.some.inj e1)
      exact ⟨a, zs, e, (hK k a hk t).trans e2, Fzk.ok ys xs zs h q⟩
  | .loc k, v, x, ⟨e, h⟩, r => by
    subst e
    obtain ⟨a, e, t⟩ := r
    exact ⟨a, e, take_get t h⟩
  | .scr ns, v, x, h, r => by
    cases (show v = _ from h)
    obtain ⟨a, e, t⟩ := r
    exact ⟨a, e, SqL.mono hF t⟩
theorem Fzs.ok : ∀ (v' v : List Va) (x : List V), Fzs S n v v' → VRs K F β v x → VRs K F' (β.take n) v' x
  | [], v, x, h, r => by cases (show v = [] from h); exact r
  | y :: ys, v, x, ⟨z, zs, e, h, hs⟩, r => by
    subst e
    obtain ⟨w, ws, e, q, qs⟩ := r
    exact ⟨w, ws, e, Fz.ok y z w h q, Fzs.ok ys zs ws hs qs⟩
theorem Fzk.ok : ∀ (v' v : List (Key × Va)) (x : List (Key × V)), Fzk S n v v' → VRk K F β v x → VRk K F' (β.take n) v' x
  | [], v, x, h, r => by cases (show v = [] from h); exact r
  | (k, y) :: ys, v, x, ⟨z, zs, e, h, hs⟩, r => by
    subst e
    obtain ⟨w, ws, e, q, qs⟩ := r
    exact ⟨w, ws, e, Fz.ok y z w h q, Fzk.ok ys zs ws hs qs⟩
end
end
end
section
variable {K : PySem.W.Frag} {cA : Str → Addr} {F F' : Hp} {β β' : List Addr} {S S' : Sto} {H H' : Hp}
theorem cut_ok (s : Sim K cA F β S H) (e : Ext F β F' β') (s' : Sim K cA F' β' S' H') (hl : S.length ≤ S'.length) (hc : ∀ (i : Nat) (o : Ob), i < S.length → S'[i]? = some o → S[i]? = some o ∨ ClO S.length o) :
    ∃ F2, Ext F β F2 (β'.take S.length) ∧ Sim K cA F2 (β'.take S.length) (S'.take S.length) H' ∧ Same F' F2 ∧ ∀ k a, S.length ≤ k → β'[k]? = some a → F2 a = H' a := by
  have sub : Same F' (fun a => if a ∈ β'.take S.length then F' a else H' a) := fun a o q => by
    show (if a ∈ β'.take S.length then F' a else H' a) = _
    by_cases z : a ∈ β'.take S.length
    · rw [if_pos z]; exact q
    · rw [if_neg z]; exact s'.sub a o q
  have hβ : β = β'.take S.length := by
    obtain ⟨t, rfl⟩ := e.pre
    rw [← s.len]; simp
  refine ⟨fun a => if a ∈ β'.take S.length then F' a else H' a, ⟨e.sub.trans sub, ?_⟩, ⟨fun a o q => ?_, by simp [s'.len], fun i j a e1 e2 => ?_, fun i o a e1 e2 => ?_, fun a ha => s'.fresh a (List.mem_of_mem_take ha)⟩, sub, fun k a hk ha => ?_⟩
  · rw [← hβ]; exact List.prefix_refl _
  · by_cases z : a ∈ β'.take S.length
    · simp only [if_pos z] at q; exact s'.sub a o q
    · simpa only [if_neg z] using q
  · rw [List.getElem?_take] at e1 e2
    split at e1
    · split at e2
      · exact s'.inj i j a e1 e2
      · cases e2
    · cases e1
  · have hm : a ∈ β'.take S.length := List.mem_of_getElem? e2
    rw [List.getElem?_take] at e1 e2
    split at e1
    · rename_i hi
      rw [if_pos hi] at e2
      obtain ⟨h1, h2⟩ := s'.obj i o a e1 e2
      refine ⟨h1.to (if_pos hm), ?_⟩
      refine OR.cut sub o a h2 ?_
      rcases hc i o hi e1 with z | z
      · obtain ⟨b, hb, _, h3⟩ := s.at z
        have := OR.cl o b h3
        rwa [s.len] at this
      · exact z
    · cases e1
  · have : a ∉ β'.take S.length := fun z => by
      obtain ⟨i, hi⟩ := List.getElem?_of_mem z
      rw [List.getElem?_take] at hi
      split at hi
      · have := s'.inj i k a hi ha
        omega
      · cases hi
    simp only [if_neg this]
theorem shed_ok (s : Sim K cA F β S H) (e : Ext F β F' β') (s' : Sim K cA F' β' S' H') {v v' : Va} {S'' : Sto} {x : V} (r : VR K F' β' v x) (h : Shed S v S' v' S'') :
    ∃ F2 β2, Ext F β F2 β2 ∧ Sim K cA F2 β2 S'' H' ∧ VR K F2 β2 v' x := by
  rcases h with ⟨rfl, rfl⟩ | ⟨⟨rfl, hl, hc⟩, hz⟩
  · exact ⟨F', β', e, s', r⟩
  · obtain ⟨F2, e2, s2, sub, hk⟩ := cut_ok s e s' hl hc
    exact ⟨F2, _, e2, s2, Fz.ok s' sub hk v' v x hz r⟩
theorem cutx_ok (s : Sim K cA F β S H) (e : Ext F β F' β') (s' : Sim K cA F' β' S' H') {S'' : Sto} (h : Cut S S' S'') : ∃ F2 β2, Ext F β F2 β2 ∧ Sim K cA F2 β2 S'' H' := by
  rcases h with rfl | ⟨rfl, hl, hc⟩
  · exact ⟨F', β', e, s'⟩
  · obtain ⟨F2, e2, s2, sub, hk⟩ := cut_ok s e s' hl hc
    exact ⟨F2, _, e2, s2⟩
end
end AM
end

section
set_option linter.all false
set_option maxRecDepth 100000
set_option maxHeartbeats 4000000
/-! AM, eighth part: every def of the text keeps its promise; the law's end. -/
namespace AM
open PySem L2

/-- a def of the text and its promise's ground; cs: lambdas' names and the code objects of the defs that make them -/
def DefOk (K : PySem.W.Frag) (T : Tab) (fs xs : List Str) (cs : List (Str × Addr)) (f : Str) (a : Addr) (d : Fn) (fd : FuncData) : Prop :=
  ∃ st nm qn lm nd dv, T.fn f = some d ∧ FunD K nm qn (defArgs st) (defBody st) (defScope st) dv [] a fd ∧ Binds K fd d.ps [] ∧ ckF xs fs d st lm nd = true ∧ (∀ q ∈ lm, (qn ++ ".<locals>.") ++ q.1 = q.2 ∧ ∃ c, (q.2, c) ∈ cs ∧ fd.code = .ref c) ∧ ∀ p ∈ nd, T.fn p.1 = some p.2
structure Facts (w : World) (K : PySem.W.Frag) (mg : Str → Option Value) (cA : Str → Addr) (T : Tab) (fs xs : List Str) (cs : List (Str × Addr) := []) : Prop where
  fn : ∀ f ∈ fs, ∃ a d fd, mg f = some (.ref a) ∧ DefOk K T fs xs cs f a d fd
  blt : ∀ x ∈ bltNames, mg x = none
  exc : ∀ x ∈ xs, mg x = some (.ref (cA x)) ∧ PySem.W.excIn K (cA x) [.type "ValueError", .type "Exception", .type "BaseException", .type "object"] "ValueError.__new__" = true ∧ PySem.W.keepIn K (.ref (cA x)) = true ∧
    PySem.W.subIn K (.ref (cA x)) (.type "BaseException") = some true ∧ PySem.W.typeIn K (.ref (cA x)) = some (.type "type")
  glo : ∀ p ∈ T.gb, ∃ u y, mg p.1 = some u ∧ RelV y u ∧ ∀ F β, VR K F β p.2 y
  noat : ∀ p ∈ T.na, Cls K (cA p.1) ∧ NoAttr K (cA p.1) p.2
  meth : ∀ p ∈ T.mt, Cls K (cA p.1) ∧ ∃ a d fd, Meth K (cA p.1) p.2.1 a ∧ DefOk K T fs xs cs p.2.2 a d fd
  init : ∀ p ∈ T.it, mg p.1 = some (.ref (cA p.1)) ∧ PySem.W.keepIn K (.ref (cA p.1)) = true ∧ match p.2 with
    | none => PySem.W.makesIn K (cA p.1) = true ∧ PySem.W.findIn K (.ref (cA p.1)) "__init__" = some (some (.builtin "object.__init__")) ∧ PySem.W.mroIn K (cA p.1) (.type "object") = some true
    | some key => ∃ a d fd, Mk K (cA p.1) a ∧ DefOk K T fs xs cs key a d fd

  isa : ∀ p ∈ T.ia, mg p.2.1 = some (.ref (cA p.2.1)) ∧ IsaOk K (cA p.1) ∧ PySem.W.kitOne K (.ref (cA p.1)) (.ref (cA p.2.1)) = some p.2.2
  gdc : ∀ p ∈ T.gd, DctOk w K mg p
  xk : ∀ p ∈ T.xk, XkOk K mg cA p
  dfl : ∀ p ∈ T.df, ∃ a d fd, mg p.1 = some (.ref a) ∧ DefOk K T fs xs cs p.1 a d fd ∧ DflOk K fd d.ps p.2

theorem start_rel {K : PySem.W.Frag} {F : Hp} {β : List Addr} : ∀ {as : List Va} {vs : List V}, VRs K F β as vs → ∀ (n : Nat), EnvR K F β (as.map some ++ List.replicate n none) (vs.map some ++ List.replicate n none)
  | [], _, h, n => by
    cases (show _ = [] from h)
    induction n with
    | zero => trivial
    | succ n ih => exact ⟨trivial, ih⟩
  | a :: as, _, ⟨y, r, e, q, qs⟩, n => by
    subst e
    exact ⟨q, start_rel qs n⟩

section
variable {P : Program} {w : World} {K : PySem.W.Frag} {mg : Str → Option Value} {base : Heap} {cA : Str → Addr} {T : Tab} {fs xs : List Str} {cs : List (Str × Addr)}
theorem Facts.add (G : Facts w K mg cA T fs xs cs) (z : Clo) : Facts w K mg cA (T.add z) fs xs cs := ⟨G.fn, G.blt, G.exc, G.glo, G.noat, G.meth, G.init, G.isa, G.gdc, G.xk, G.dfl⟩
theorem CloB.keeps {base base' : Heap} {z : Clo} (h : CloB T xs fs base z) (sub : ∀ b o, base.get? b = some o → base'.get? b = some o) : CloB T xs fs base' z := by
  obtain ⟨nm, params, bd, scope, cl, fr, d, doc, pm, ctv, od, sl, h1, h2, h3, h4⟩ := h
  exact ⟨nm, params, bd, scope, cl, fr, d, doc, pm, ctv, od, sl, h1, h2, sub _ _ h3, h4.keeps sub⟩
theorem fns_of (G : Facts w K mg cA T fs xs cs) {k : Nat} (A : ∀ (f : Str) (a : Addr) (d : Fn) (fd : FuncData), DefOk K T fs xs cs f a d fd → FnOk P w K mg base (L2.CX P w) (2 * k) a fd d.ps (spI K cA (orc T k) f)) : FnsOk P w K mg base cA T k fs := by
  refine ⟨fun f hf => ?_, fun p hp => ?_⟩
  · obtain ⟨a, d, fd, h2, D⟩ := G.fn f hf
    have F := A f a d fd D
    obtain ⟨st, nm, qn, lm, nd, dv, h1, h3, h4, h5, _⟩ := D
    exact ⟨d, a, fd, h1, h2, h3.kp, h4, F⟩
  · obtain ⟨e1, a, d, fd, e2, D⟩ := G.meth p hp
    have F := A p.2.2 a d fd D
    obtain ⟨st, nm, qn, lm, nd, dv, h1, h3, h4, h5, _⟩ := D
    exact ⟨e1, d, a, fd, h1, e2, h4, F⟩
theorem ndOf_ok {nd : List (Str × Fn)} (h : ∀ p ∈ nd, T.fn p.1 = some p.2) : ∀ id params bd scope fr, ndOf xs fs nd id params bd scope fr = true → ∃ d, T.fn id = some d ∧ ckN xs fs d params bd scope fr = true := fun id params bd scope fr hk => by
  unfold ndOf at hk
  split at hk
  · rename_i d hd
    exact ⟨d, h _ (lk_mem hd), hk⟩
  · cases hk
/-- every def keeps its promise, and so does every function made on the way -/
theorem all_ok : ∀ (k : Nat) (T : Tab) (base : Heap) (G : Facts w K mg cA T fs xs cs) (TB : ∀ p ∈ cs, LamX.TabB base mg p.2 (cA p.1)) (CB : ∀ z ∈ T.cl, CloB T xs fs base z),
    (∀ (f : Str) (a : Addr) (d : Fn) (fd : FuncData), DefOk K T fs xs cs f a d fd → FnOk P w K mg base (L2.CX P w) (2 * k) a fd d.ps (spI K cA (orc T k) f)) ∧ ∀ z ∈ T.cl, CloOk P w K mg base cA T k z
  | 0, T, base, G, TB, CB => ⟨fun f a d fd _ => ⟨fun vs H Q E ⟨F, β, S, as, _, _, q⟩ => q.elim, fun A outer s H args us vs Q E _ _ _ _ ⟨F, β, S, as, _, _, q⟩ => q.elim⟩, fun z _ A outer s H us vs Q E _ _ _ _ ⟨F, β, S, as, _, _, q⟩ => q.elim⟩
  | k + 1, T, base, G, TB, CB => by
    have IH := all_ok k T base G TB CB
    have FS := fns_of (base := base) (k := k) G IH.1
    have fnAt : ∀ z ∈ T.cl, PySem.W.FnAt z.f base := fun z hz => by
      obtain ⟨nm, params, bd, scope, cl, fr, d, doc, pm, ctv, od, sl, h1, h2, h3, h4⟩ := CB z hz
      exact ⟨_, _, _, _, h3⟩
    have CLO : ∀ z ∈ T.cl, PySem.W.FnAt z.f base ∧ CloOk P w K mg base cA T k z := fun z hz => ⟨fnAt z hz, IH.2 z hz⟩
    have UP : ∀ (base' : Heap) (z : Clo), (∀ b o, base.get? b = some o → base'.get? b = some o) → CloB T xs fs base' z → FnsOk P w K mg base' cA (T.add z) k fs := fun base' z sub cb =>
      fns_of (G.add z) (all_ok k (T.add z) base' (G.add z) (fun p hp => ⟨(TB p hp).code.keeps sub, (TB p hp).bm.keeps sub, (TB p hp).gP⟩) (fun z' hz' => by
        rcases List.mem_cons.mp (show z' ∈ z :: T.cl from hz') with e | hz'
        · rw [e]; exact cb
        · exact (CB z' hz').keeps sub)).1
    have INI : ∀ p ∈ T.it, mg p.1 = some (.ref (cA p.1)) ∧ PySem.W.keepIn K (.ref (cA p.1)) = true ∧ match p.2 with
        | none => PySem.W.makesIn K (cA p.1) = true ∧ PySem.W.findIn K (.ref (cA p.1)) "__init__" = some (some (.builtin "object.__init__")) ∧ PySem.W.mroIn K (cA p.1) (.type "object") = some true
        | some key => ∃ d a fd, T.fn key = some d ∧ Mk K (cA p.1) a ∧ Binds K fd d.ps [] ∧ FnOk P w K mg base (L2.CX P w) (2 * k) a fd d.ps (spI K cA (orc T k) key) := fun p hp => by
      obtain ⟨e1, e2, e3⟩ := G.init p hp
      refine ⟨e1, e2, ?_⟩
      obtain ⟨c, o⟩ := p
      cases o with
      | none => exact e3
      | some key =>
        obtain ⟨a, d, fd, e4, D⟩ := e3
        have F := IH.1 key a d fd D
        obtain ⟨st, nm, qn, lm, nd, dv, h1, h3, h4, h5, _⟩ := D
        exact ⟨d, a, fd, h1, e4, h4, F⟩
    have DFL : ∀ p ∈ T.df, ∃ d a fd, T p.1 = some d ∧ mg p.1 = some (.ref a) ∧ PySem.W.keepIn K (.ref a) = true ∧ DflOk K fd d.ps p.2 ∧ FnOk P w K mg base (L2.CX P w) (2 * k) a fd d.ps (spI K cA (orc T k) p.1) := fun p hp => by
      obtain ⟨a, d, fd, e1, D, e2⟩ := G.dfl p hp
      have F := IH.1 p.1 a d fd D
      obtain ⟨st, nm, qn, lm, nd, dv, h1, h3, h4, h5, _⟩ := D
      exact ⟨d, a, fd, h1, e1, h3.kp, e2, F⟩
    have MKR : ∀ f ∈ fs, ∀ id q js n, T.mkf f = some (id, q, js, n) → MkOk P w K mg base cA T xs fs f id q js n := fun f hf id q js n ht => by
      obtain ⟨a, d, fd, e1, st, nm, qn, lm, nd, dv, h1, h3, h4, h5, hlm, hnd⟩ := G.fn f hf
      obtain ⟨ps, N, body⟩ := d
      unfold Tab.mkf at ht
      rw [show T.fns.lookup f = some ⟨ps, N, body⟩ from h1] at ht
      cases body with
      | nil => cases ht
      | cons _ _ => cases ht
      | defret _ _ _ _ _ _ _ => cases ht
      | mkfn i id' q' js' =>
        cases ht
        unfold ckF at h5
        split at h5
        · rename_i _ ar bd dl rt ty sc tp bn pos
          replace h5 := (ba h5).1
          replace h5 := (ba h5).1
          replace h5 := (ba h5).1
          replace h5 := (ba h5).1
          replace h5 := (ba h5).1
          replace h5 := (ba h5).1
          have c8 := (ba h5).2
          replace h5 := (ba h5).1
          have c7 := (ba h5).2
          replace h5 := (ba h5).1
          have c6 := (ba h5).2
          replace h5 := (ba h5).1
          have c5 := (ba h5).2
          replace h5 := (ba h5).1
          have c4 := (ba h5).2
          replace h5 := (ba h5).1
          have c3 := (ba h5).2
          replace h5 := (ba h5).1
          have c2 := (ba h5).2
          have c1 := (ba h5).1
          clear h5
          simp only [ckSs] at c1
          split at c1
          · rename_i inm ip ib isc inm2 ipos inm3 npos rpos
            obtain ⟨c1, k8⟩ := ba c1
            obtain ⟨c1, k7⟩ := ba c1
            obtain ⟨c1, k6⟩ := ba c1
            obtain ⟨c1, k5⟩ := ba c1
            obtain ⟨c1, k4⟩ := ba c1
            obtain ⟨c1, k3⟩ := ba c1
            obtain ⟨k1, k2⟩ := ba c1
            have k1 := of_decide_eq_true k1
            have k2 := of_decide_eq_true k2
            have k3 := of_decide_eq_true k3
            subst k1 k2
            obtain ⟨k6, l4⟩ := ba k6
            obtain ⟨k6, l3⟩ := ba k6
            obtain ⟨l1, l2⟩ := ba k6
            obtain ⟨d2, hd2, hck⟩ := ndOf_ok hnd _ _ _ _ _ l4
            have hm : (inm3, q) ∈ lm := by simpa using k7
            obtain ⟨eq, cc, hcc, ecd⟩ := hlm _ hm
            have kp := h3.kp
            obtain ⟨oc, od, dV, kV, doc, pm, an, cdv, ct, osl, rfl, lk, hcd, _, _⟩ := h3.ex
            have FS : FnScope N ps sc := ⟨of_decide_eq_true c2, (show sc.isCoroutine = false from by simpa using c3), (show sc.isGenerator = false from by simpa using c4), of_decide_eq_true c5, of_decide_eq_true c6, fun x hx => loc_of (List.all_eq_true.mp c7 x hx), fun y hy => by have := List.all_eq_true.mp c8 y hy; exact of_decide_eq_true this⟩
            refine ⟨a, inm3, ip, ib, isc, js.map (fun j => N.getD j ""), N, d2, e1, kp, hd2, hck, fun A outer s H us vs hr e0 r hl hT => ?_⟩
            refine maker_run lk hcd FS k3 (loc_of k4) (by have := (ba (ba k5).1).2; simpa using this) (by have := (ba k5).2; simpa using this) (plainA_d0 l3).1 (plainA_d0 l3).2 (fun env => (plainA_dflt l3 env).2.2) l2 ?_ (fun j hj => of_decide_eq_true (List.all_eq_true.mp k8 j hj)) ecd (TB (q, cc) hcc) eq hr e0 ?_ r hl hT
            · rw [List.map_map]
              exact List.map_congr_left fun j hj => getD_of (List.all_eq_true.mp l1 j hj)
            · have b := h4 s us (e0.mod.kin.keeps fun b o e => (e0.bs b o e).1) (by rw [List.append_nil, ← r.length]; exact hl)
              rw [List.append_nil] at b
              exact b
          · cases c1
        · cases h5
    refine ⟨fun f a d fd ⟨st, nm, qn, lm, nd, dv, h1, h3, h4, h5, hlm, hnd⟩ => ?_, fun z hz => ?_⟩
    · unfold ckF at h5
      split at h5
      · rename_i _ ar bd dl rt ty sc tp bn ps
        obtain ⟨h5, _⟩ := ba h5
        obtain ⟨h5, _⟩ := ba h5
        obtain ⟨h5, _⟩ := ba h5
        obtain ⟨h5, _⟩ := ba h5
        obtain ⟨h5, _⟩ := ba h5
        obtain ⟨h5, _⟩ := ba h5
        obtain ⟨h5, c8⟩ := ba h5
        obtain ⟨h5, c7⟩ := ba h5
        obtain ⟨h5, c6⟩ := ba h5
        obtain ⟨h5, c5⟩ := ba h5
        obtain ⟨h5, c4⟩ := ba h5
        obtain ⟨h5, c3⟩ := ba h5
        obtain ⟨c1, c2⟩ := ba h5
        have hN : d.N.Nodup := of_decide_eq_true c5
        show FnOk P w K mg base (L2.CX P w) (2 * k + 1 + 1) a fd d.ps (spI K cA (orc T (k + 1)) f)
        obtain ⟨oc, od, dV, kV, doc, pm, an, cdv, ct, osl, rfl, lk, hcd, _, _⟩ := h3.ex
        refine fn_of (CX := L2.CX P w) (N := d.N) lk hcd ⟨of_decide_eq_true c2, (show sc.isCoroutine = false from by simpa using c3), (show sc.isGenerator = false from by simpa using c4), hN, of_decide_eq_true c6, fun x hx => loc_of (List.all_eq_true.mp c7 x hx), fun y hy => by have := List.all_eq_true.mp c8 y hy; exact of_decide_eq_true this⟩
          (fun vs H Q E ⟨F, β, S, as, s, r, d', hd, hl, _⟩ => ?_) (fun A outer s H vs Q E hr ⟨F, β, S, as, si, r, d', hd, hl, q⟩ => ?_)
        · rw [h1] at hd; cases hd
          rw [← hl, r.len]
        · rw [h1] at hd; cases hd
          have g : Gd ⟨d.N, sc, xs, fs, locB sc, false, lm, ndOf xs fs nd⟩ cA T k none (fun cls dd _ H => E cls dd H) (cxOf (L2.CX P w) P w K mg base d.N qn sc a cdv A outer s H E) := by
            refine ⟨rfl, hN, rfl, of_decide_eq_true c2, fun x h => ⟨loc_of h, .inl rfl⟩, fun _ => rfl, fun _ => hr, (show A.units + 3 + 65 < cLine from by have h9 := hr.un; have h9 : A.units + 3 + 16 * (2 * k + 1) + 200 < cLine := h9; omega), takes_of rfl rfl rfl rfl, fun _ => passes_of rfl, fun _ => rfl, fun a x e => by (cases e), G.xk, G.blt, FS.1, fun x hx => ?_, G.glo, G.noat, FS.2, INI, G.isa, G.gdc, DFL, MKR, fun q hq => ?_, fun _ _ => rfl, ndOf_ok hnd, CLO, UP⟩
            · obtain ⟨e1, e2, e3, e4, e5⟩ := G.exc x hx
              exact ⟨e1, e2, e3, raises_own e4 e5⟩
            · obtain ⟨e1, c, hc, e2⟩ := hlm q hq
              exact ⟨e1, c, e2, TB (q.2, c) hc⟩
          refine ⟨_, sndSs d.body _ none _ _ g rfl rfl bd c1, F, β, startA d.N as, S, si, ?_, WSs_mono (call_mono T k) d.body _ _ _ _ ⟨?_, ?_, ?_, ?_, ?_⟩ q⟩
          · have := start_rel r (d.N.length - vs.length)
            unfold startA L2.start
            rw [r.len]
            exact this
          · intro Γ S' ⟨v', S'', hs, hp⟩ F' β' H' σ' e' s' g'
            obtain ⟨F2, β2, e2, s2, r2⟩ := shed_ok si e' s' (v := .non) (x := .non) rfl hs
            exact hp F2 β2 H' _ e2 s2 r2
          · intro v S' ⟨v', S'', hs, hp⟩ F' β' H' x e' s' r'
            obtain ⟨F2, β2, e2, s2, r2⟩ := shed_ok si e' s' r' hs
            exact hp F2 β2 H' _ e2 s2 r2
          · exact fun _ _ z => z.elim
          · exact fun _ _ z => z.elim
          · intro x Γ S' ⟨S'', hs, hp⟩ F' β' H' σ' e' s' g'
            obtain ⟨F2, β2, e2, s2⟩ := cutx_ok si e' s' hs
            exact hp F2 β2 H' e2 s2
      · cases h5
    · obtain ⟨nm, params, bd, scope, cl, fr, d, doc, pm, ctv, od, sl, h1, h2, h3, h4⟩ := CB z hz
      intro A outer s H us vs Q E hr e0 hc rv ⟨F, β, S, as, si, r, d', hd, hl, q⟩
      rw [h1] at hd; cases hd
      unfold ckN at h2
      split at h2
      · cases h2
      · rename_i ps hps
        obtain ⟨h2, k3⟩ := ba h2
        obtain ⟨k1, k2⟩ := ba h2
        have k1 := of_decide_eq_true k1
        have NS := NdefX.nscope_by k2
        have hlv : vs.length = ps.length := by
          have e1 := r.len
          rw [hl, k1, List.length_append, List.length_append, h4.len] at e1
          omega
        have hr : Room (2 * k + 1 + 1) A := hr
        refine clo_run hps NS h3 h4 hr e0 hc rv hlv fun hr' => ?_
        have g : ∀ {lc : Str → Bool}, lc = locL scope → Gd ⟨d.N, scope, xs, fs, lc, false, [], noNd⟩ cA T k none (fun cls dd _ H => E cls dd H) (NdefX.ncx (L2.CX P w) P w K mg base d.N (nfOf nm z.q params scope cl z.c) z.f A outer s H E) := by
          rintro lc rfl
          refine ⟨rfl, NS.nd, rfl, NS.kind, fun x h => ?_, fun _ => rfl, fun _ => hr', (show A.units + 3 + 65 < cLine from by have h9 := hr'.un; have h9 : A.units + 3 + 16 * (2 * k + 1) + 200 < cLine := h9; omega), takes_of rfl rfl rfl rfl, fun _ => passes_of rfl, fun _ => rfl, fun a x e => by (cases e), G.xk, G.blt, FS.1, fun x hx => ?_, G.glo, G.noat, FS.2, INI, G.isa, G.gdc, DFL, MKR, fun q hq => by (cases hq), fun h => absurd rfl h, fun _ _ _ _ _ h => by (cases h), CLO, UP⟩
          · have e : scope.names.lookup x = some .local := of_decide_eq_true h
            exact ⟨.inl e, .inr e⟩
          · obtain ⟨e1, e2, e3, e4, e5⟩ := G.exc x hx
            exact ⟨e1, e2, e3, raises_own e4 e5⟩
        have en : EnvR K F β (startA d.N as) (NdefX.startF d.N vs (z.xs.map some)) := by
          have := start_rel r (d.N.length - as.length)
          unfold startA NdefX.startF
          rw [List.map_append, List.append_assoc] at this
          have e1 := r.len
          rw [List.length_append] at e1
          rw [List.length_map, show d.N.length - vs.length - z.xs.length = d.N.length - as.length from by omega]
          exact this
        refine ⟨fun b eb => ?_, fun e eb => ?_⟩
        · subst eb
          refine ⟨_, sndSs d.body _ none _ _ (g rfl) rfl rfl b k3, F, β, startA d.N as, S, si, en, WSs_mono (call_mono T k) d.body _ _ _ _ ⟨?_, ?_, ?_, ?_, ?_⟩ q⟩
          · intro Γ S' ⟨v', S'', hs, hp⟩ F' β' H' σ' e' s' g'
            obtain ⟨F2, β2, e2, s2, r2⟩ := shed_ok si e' s' (v := .non) (x := .non) rfl hs
            exact hp F2 β2 H' _ e2 s2 r2
          · intro v S' ⟨v', S'', hs, hp⟩ F' β' H' x e' s' r'
            obtain ⟨F2, β2, e2, s2, r2⟩ := shed_ok si e' s' r' hs
            exact hp F2 β2 H' _ e2 s2 r2
          · exact fun _ _ z => z.elim
          · exact fun _ _ z => z.elim
          · intro x Γ S' ⟨S'', hs, hp⟩ F' β' H' σ' e' s' g'
            obtain ⟨F2, β2, e2, s2⟩ := cutx_ok si e' s' hs
            exact hp F2 β2 H' e2 s2
        · subst eb
          have k3 : (match d.body with
            | .cons (.ret m) .nil => ckE ⟨d.N, scope, xs, fs, locL scope, false, [], noNd⟩ m e
            | _ => false) = true := k3
          split at k3
          · rename_i m hb
            rw [hb] at q
            refine ⟨_, sndE _ m _ _ (g rfl) e k3, F, β, startA d.N as, S, si, en, W_mono (call_mono T k) m _ _ _ _ _ _ ?_ ?_ (show W _ m _ _ _ _ from q)⟩
            · intro v S' ⟨v', S'', hs, hp⟩ F' β' H' x e' s' r'
              obtain ⟨F2, β2, e2, s2, r2⟩ := shed_ok si e' s' r' hs
              exact hp F2 β2 H' _ e2 s2 r2
            · intro x S' ⟨S'', hs, hp⟩ F' β' H' e' s'
              obtain ⟨F2, β2, e2, s2⟩ := cutx_ok si e' s' hs
              exact hp F2 β2 H' e2 s2
          · cases k3
theorem fn_ok (G : Facts w K mg cA T fs xs cs) (TB : ∀ p ∈ cs, LamX.TabB base mg p.2 (cA p.1)) (k : Nat) (f : Str) (a : Addr) (d : Fn) (fd : FuncData) (D : DefOk K T fs xs cs f a d fd) (CB : T.cl = [] := by rfl) : FnOk P w K mg base (L2.CX P w) (2 * k) a fd d.ps (spI K cA (orc T k) f) :=
  (all_ok k T base G TB (fun z hz => by rw [CB] at hz; cases hz)).1 f a d fd D

theorem fnil {α : Type} {Q : α → Prop} : ∀ f ∈ ([] : List α), Q f := fun _ h => by cases h
theorem fcons {α : Type} {Q : α → Prop} {x : α} {l : List α} (h : Q x) (t : ∀ f ∈ l, Q f) : ∀ f ∈ x :: l, Q f := fun f hf => by
  rcases List.mem_cons.mp hf with e | hf
  · rw [e]; exact h
  · exact t f hf
/-- the law's promise from the machine's -/
theorem law_ok (G : Facts w K mg cA T fs xs cs) (hlaw : ("law" : Str) ∈ fs) {k : Nat} {a : Addr} {H : Hp} {ns : List Int} (hS : SqL K H a (ns.map V.int))
    (h : call T k "law" [.scr ns] [] (fun v _ => v = .bl true) (fun _ _ => False)) : spI K cA (orc T k) "law" [.ref a] H (fun v _ => v = .bl true) (fun _ _ _ => False) := by
  refine ⟨H, [], [], [.scr ns], ⟨Same.refl _, rfl, fun i j a e => by simp at e, fun i o a e => by simp at e, fun a e => by simp at e⟩, ⟨.ref a, [], rfl, ⟨a, rfl, hS⟩, rfl⟩, ?_⟩
  · refine (call_mono T k).run _ _ _ _ _ _ _ (fun v S e F' β' H' x _ _ r => ?_) (fun _ _ z => z.elim) h
    subst e
    exact r
end

/-- .. where some defs make lambdas: their tables stand in the store from the start -/
theorem law_okT {K : PySem.W.Frag} {cA : Str → Addr} {T : Tab} {ts : List (Str × Addr)} (hA : ∀ p ∈ ts, cA p.1 = p.2) (hn : (ts.map (·.2)).Nodup) {k : Nat} {a : Addr} {H : Hp} {ns : List Int} (hT : ∀ p ∈ ts, H p.2 = some (.tbl #[])) (hS : SqL K H a (ns.map V.int))
    (h : call T k "law" [.scr ns] (ts.map fun p => Ob.tab p.1) (fun v _ => v = .bl true) (fun _ _ => False)) : spI K cA (orc T k) "law" [.ref a] H (fun v _ => v = .bl true) (fun _ _ _ => False) := by
  have mem : ∀ b, b ∈ ts.map (·.2) → H b = some (.tbl #[]) := fun b hb => by
    obtain ⟨p, hp, e⟩ := List.mem_map.mp hb
    rw [← e]; exact hT p hp
  have out : ∀ b u, H b = some u → (∀ ps, u ≠ .tbl ps) → (if b ∈ ts.map (·.2) then none else H b) = some u := fun b u e n => by
    by_cases hb : b ∈ ts.map (·.2)
    · rw [mem b hb] at e; cases e; exact absurd rfl (n _)
    · rw [if_neg hb]; exact e
  refine ⟨fun b => if b ∈ ts.map (·.2) then none else H b, ts.map (·.2), ts.map fun p => Ob.tab p.1, [.scr ns], ⟨fun b u e => ?_, by simp, fun i j b e1 e2 => ?_, fun i o b e1 e2 => ?_, fun b hb => ?_⟩, ⟨.ref a, [], rfl, ⟨a, rfl, ?_⟩, rfl⟩, ?_⟩
  · by_cases hb : b ∈ ts.map (·.2)
    · have e' : (if b ∈ ts.map (·.2) then none else H b) = some u := e
      rw [if_pos hb] at e'; cases e'
    · have e' : (if b ∈ ts.map (·.2) then none else H b) = some u := e
      rw [if_neg hb] at e'; exact e'
  · exact (List.getElem?_inj (lt_of_get e1) hn).mp (e1.trans e2.symm)
  · rw [List.getElem?_map] at e1 e2
    cases q : ts[i]? with
    | none => rw [q] at e1; cases e1
    | some p =>
      rw [q] at e1 e2
      cases (Option.some.inj e1 : Ob.tab p.1 = o)
      cases (Option.some.inj e2 : p.2 = b)
      have hp := List.mem_of_getElem? q
      have hb : p.2 ∈ ts.map (·.2) := List.mem_map.mpr ⟨p, hp, rfl⟩
      exact ⟨if_pos hb, (hA p hp).symm, #[], mem _ hb, True.intro, fun pos cv hc => by
        have z : codeAmong pos [] = some cv := hc
        simp [codeAmong] at z⟩
  · rw [mem b hb]; simp
  · rcases hS with (e | ⟨o, e⟩) | e
    · exact .inl (.inl (out _ _ e (fun _ z => by cases z)))
    · exact .inl (.inr ⟨o, out _ _ e (fun _ z => by cases z)⟩)
    · exact .inr e
  · refine (call_mono T k).run _ _ _ _ _ _ _ (fun v S e F' β' H' x _ _ r => ?_) (fun _ _ z => z.elim) h
    subst e
    exact r

/-! ### heads of laws whose defs make lambdas -/
theorem code_ok {K : PySem.W.Frag} {x qual : Str} {params : Arguments} {body : List Stmt} {scope : Scope} {dvs : List V} {kws : List (Str × V)} {p : He.Defn} {fd : FuncData} (F : FunD K x qual params body scope dvs kws (He.fAd K p) fd) : fd.code = .ref (He.codeOf K p) := by
  obtain ⟨oc, od, dV, kV, doc, pm, an, cdv, ct, osl, rfl, lk, hcd, _, _⟩ := F.ex
  obtain ⟨c, rfl⟩ := He.codeIn_ref hcd
  rw [He.codeOf_eq lk rfl]
/-- lambdas' names stand for tables, all other names for the module's things -/
def cAl (l : List (Str × He.Defn)) (K : PySem.W.Frag) (x : Str) : Addr := match l.lookup x with
  | some p => (He.cT K p).2
  | none => He.ga K x
theorem cAl_ga {l : List (Str × He.Defn)} {K : PySem.W.Frag} {ns : List Str} (h : (ns.all fun x => (l.lookup x).isNone) = true) : ∀ x ∈ ns, cAl l K x = He.ga K x := fun x hx => by
  have e := List.all_eq_true.mp h x hx
  unfold cAl
  cases q : l.lookup x with
  | none => rfl
  | some p => rw [q] at e; cases e
theorem lookup_of {β : Type} : ∀ {l : List (Str × β)}, (l.map (·.1)).Nodup → ∀ p ∈ l, l.lookup p.1 = some p.2
  | [], _, p, h => by cases h
  | (x, v) :: r, hn, p, h => by
    have hn' : x ∉ r.map (·.1) ∧ (r.map (·.1)).Nodup := by simpa using List.nodup_cons.mp hn
    rcases List.mem_cons.mp h with rfl | h
    · simp [List.lookup]
    · have ne : p.1 ≠ x := fun e => hn'.1 (e ▸ List.mem_map.mpr ⟨p, h, rfl⟩)
      rw [List.lookup_cons, beq_false_of_ne ne]
      exact lookup_of hn'.2 p h
abbrev lamCs (l : List (Str × He.Defn)) (K : PySem.W.Frag) : List (Str × Addr) := l.map fun p => (p.1, He.codeOf K p.2)
abbrev lamTs (l : List (Str × He.Defn)) (K : PySem.W.Frag) : List (Str × Addr) := l.map fun p => (p.1, (He.cT K p.2).2)
theorem lamTs_ok {l : List (Str × He.Defn)} {K : PySem.W.Frag} (hn : (l.map (·.1)).Nodup) : ∀ p ∈ lamTs l K, cAl l K p.1 = p.2 := fun p hp => by
  obtain ⟨q, hq, rfl⟩ := List.mem_map.mp hp
  show cAl l K q.1 = _
  unfold cAl
  rw [lookup_of hn q hq]
theorem lamCs_ok {l : List (Str × He.Defn)} {K : PySem.W.Frag} {base : Heap} {mg : Str → Option Value} (hn : (l.map (·.1)).Nodup) (TB : ∀ p ∈ l.map (fun p => He.cT K p.2), LamX.TabB base mg p.1 p.2) : ∀ p ∈ lamCs l K, LamX.TabB base mg p.2 (cAl l K p.1) := fun p hp => by
  obtain ⟨q, hq, rfl⟩ := List.mem_map.mp hp
  have e : cAl l K q.1 = (He.cT K q.2).2 := by
    unfold cAl
    rw [lookup_of hn q hq]
  show LamX.TabB base mg (He.codeOf K q.2) (cAl l K q.1)
  rw [e]
  exact TB _ (List.mem_map.mpr ⟨q, hq, rfl⟩)
def Tab.nms (T : Tab) : List Str := T.na.map (·.1) ++ T.mt.map (·.1) ++ T.it.map (·.1) ++ T.ia.map (·.1) ++ T.ia.map (·.2.1) ++ T.xk.map (·.1)
theorem Facts.ofGa {w : World} {K : PySem.W.Frag} {mg : Str → Option Value} {cA cA' : Str → Addr} {T : Tab} {fs xs : List Str} {cs : List (Str × Addr)} (G : Facts w K mg cA T fs xs cs) (h : ∀ x ∈ T.nms ++ xs, cA' x = cA x) : Facts w K mg cA' T fs xs cs := by
  have h1 : ∀ p ∈ T.na, cA' p.1 = cA p.1 := fun p hp => h _ (by simp only [Tab.nms, List.mem_append, List.mem_map]; exact .inl (.inl (.inl (.inl (.inl (.inl ⟨p, hp, rfl⟩))))))
  have h2 : ∀ p ∈ T.mt, cA' p.1 = cA p.1 := fun p hp => h _ (by simp only [Tab.nms, List.mem_append, List.mem_map]; exact .inl (.inl (.inl (.inl (.inl (.inr ⟨p, hp, rfl⟩))))))
  have h3 : ∀ p ∈ T.it, cA' p.1 = cA p.1 := fun p hp => h _ (by simp only [Tab.nms, List.mem_append, List.mem_map]; exact .inl (.inl (.inl (.inl (.inr ⟨p, hp, rfl⟩)))))
  have h4 : ∀ p ∈ T.ia, cA' p.1 = cA p.1 := fun p hp => h _ (by simp only [Tab.nms, List.mem_append, List.mem_map]; exact .inl (.inl (.inl (.inr ⟨p, hp, rfl⟩))))
  have h5 : ∀ p ∈ T.ia, cA' p.2.1 = cA p.2.1 := fun p hp => h _ (by simp only [Tab.nms, List.mem_append, List.mem_map]; exact .inl (.inl (.inr ⟨p, hp, rfl⟩)))
  have h6 : ∀ p ∈ T.xk, cA' p.1 = cA p.1 := fun p hp => h _ (by simp only [Tab.nms, List.mem_append, List.mem_map]; exact .inl (.inr ⟨p, hp, rfl⟩))
  have h7 : ∀ x ∈ xs, cA' x = cA x := fun x hx => h _ (List.mem_append.mpr (.inr hx))
  refine ⟨G.fn, G.blt, fun x hx => ?_, G.glo, fun p hp => ?_, fun p hp => ?_, fun p hp => ?_, fun p hp => ?_, G.gdc, fun p hp => ?_, G.dfl⟩
  · rw [h7 x hx]; exact G.exc x hx
  · rw [h1 p hp]; exact G.noat p hp
  · rw [h2 p hp]; exact G.meth p hp
  · rw [h3 p hp]; exact G.init p hp
  · rw [h4 p hp, h5 p hp]; exact G.isa p hp
  · obtain ⟨v, cv, e1, e2, e3, e4, e5⟩ := G.xk p hp
    exact ⟨v, cv, e1, e2, by rw [h6 p hp]; exact e3, by rw [h6 p hp]; exact e4, by rw [h6 p hp]; exact e5⟩

/-! ### defs whose last parameter has the default None -/
section
variable {K : PySem.W.Frag} {x qual : Str} {params : Arguments} {body : List Stmt} {scope : Scope} {f : Addr} {fd : FuncData} {ps : List Str}
/-- all written -/
theorem dfl_all (F : FunD K x qual params body scope [V.non] [] f fd)
    (h : ∀ (T : Addr) (kV doc pm : Value) (an : Option Addr) (cdv ct : Value) (us its : List Value), us.length = ps.length → its.length = 1 →
      ∃ k, bindArgs (PySem.W.fnOf x qual params body scope (.ref T) kV doc pm an cdv ct) ⟨us, []⟩ = seqItems? (.ref T) >>= k ∧ k (some its.toArray) = pure (ps.zip us)) : Binds K fd ps [] := by
  obtain ⟨ds, r, b⟩ := F.binds1 (ps := ps) ps.length 1 (by simp) (by simp) fun T kV doc pm an cdv ct us its h1 h2 => by
    obtain ⟨k, e1, e2⟩ := h T kV doc pm an cdv ct us its h1 h2
    refine ⟨k, e1, ?_⟩
    rw [e2, List.drop_eq_nil_of_le (by rw [h2]; exact Nat.le_refl _), List.append_nil]
  cases (show Vals [] ds from r)
  exact b
/-- the last one left out, or written by its name -/
theorem dfl_ok {y : Str} (F : FunD K x qual params body scope [V.non] [] f fd) (hp : 1 ≤ ps.length)
    (h : ∀ (T : Addr) (kV doc pm : Value) (an : Option Addr) (cdv ct : Value) (us : List Value) (d : Value), us.length + 1 = ps.length →
      ∃ k, bindArgs (PySem.W.fnOf x qual params body scope (.ref T) kV doc pm an cdv ct) ⟨us, []⟩ = seqItems? (.ref T) >>= k ∧ k (some #[d]) = pure (ps.zip (us ++ [d])))
    (h' : ∀ (T : Addr) (kV doc pm : Value) (an : Option Addr) (cdv ct : Value) (us : List Value) (d w : Value), us.length + 1 = ps.length →
      ∃ k, bindArgs (PySem.W.fnOf x qual params body scope (.ref T) kV doc pm an cdv ct) ⟨us, [(y, w)]⟩ = seqItems? (.ref T) >>= k ∧ k (some #[d]) = pure (ps.zip (us ++ [w]))) : DflOk K fd ps y := by
  refine ⟨?_, ?_⟩
  · obtain ⟨ds, r, b⟩ := F.binds1 (ps := ps) (ps.length - 1) 0 (by simp) (by simp; omega) fun T kV doc pm an cdv ct us its h1 h2 => by
      obtain ⟨d, rfl⟩ := List.length_eq_one_iff.mp (show its.length = 1 from h2)
      exact h T kV doc pm an cdv ct us d (by omega)
    exact ⟨ds, r, b⟩
  · obtain ⟨oc, od, dV, kV, doc, pm, an, cdv, ct, osl, rfl, lk, hcd, hD, hK⟩ := F.ex
    rcases hD with ⟨e, _⟩ | ⟨_, T, o, its, m, rfl, lT, oT, rT⟩
    · cases e
    · intro s us w X hl
      obtain ⟨d, rfl⟩ := List.length_eq_one_iff.mp (show its.length = 1 from rT.length.symm)
      obtain ⟨k, e1, e2⟩ := h' T kV doc pm an cdv ct us d w hl
      refine BindsTo.of_looks fun M => ?_
      rw [e1]
      exact looks_items X lT oT (.of_pure e2)
end
/-- a law's end, with the bits of the script's numbers told -/
theorem walk_ofEB {l : PySem.W.OpenLaw} {n k : Nat} {q : Program} {loose : List Str} {XP : (Str → Option Value) → Heap → Prop} {YP : World → Heap → Prop} {d : DefRec} {CX : World → CXT} {x : Str}
    (hn : l.most = some n) (hn2 : n ≤ sizeLine) (hdf : d.params.defaults = []) (hr : Room k callerA)
    (F : ∀ (w : World) (mg : Str → Option Value) (fa : Addr) (h : Heap), YP w h → h.Ns mainGlobals mg → mg d.name = some (.ref fa) →
      ∃ (K : PySem.W.Frag) (fd : FuncData) (sp : Sp), K.In h ∧ (∀ (s : Shared) (u : Value), BindsTo s fd ⟨[u], []⟩ [(x, u)]) ∧
        (∀ (H : Hp) (a : Addr) (ns : List Int), ns.length ≤ n → (∀ z ∈ ns, Builtin.Int.intBits z ≤ 1048576) → Only H → SqL K H a (ns.map V.int) → sp [.ref a] H (fun v _ => v = .bl true) fun _ _ _ => False) ∧
        ∀ base : Heap, K.In base → base.Ns mainGlobals mg → FnOk l.prog w K mg base (CX w) k fa fd [x] sp)
    (hCX : ∀ (w : World) (H : Hp) (s : Shared) (e : Value) (s' : Shared), CX w [] H s (fun _ _ _ => False) e s' → False) :
    PySem.W.WalkO q loose XP YP l.row.toRowW d [] (fun f vs => PySem.call f vs) := by
  refine Att.attach_callB hn hdf fun w s₀ s₁ mg mb fa o pm cd doc a vs ns G Y ho hd hcd hmg hobj hints hlen hbits hg => ?_
  obtain ⟨K, fd, sp, KX, hb, hsp, hF⟩ := F w mg fa _ Y G.T.g hmg
  exact law_call KX G.T.g G.T.b G.T.builtins G.T.nolimit hg hobj hints (Nat.le_trans hlen hn2) hr hF hb (fun H hO hS => hsp H a ns hlen hbits hO hS) fun H e s' => hCX w H s₁ e s'
end AM
end

section
set_option linter.all false
set_option maxRecDepth 100000
set_option maxHeartbeats 4000000
/-! AM, ninth part: rules for use. -/
namespace AM
open PySem L2

theorem fin_keep {S0 S : Sto} {P : PV} {v : Va} (h : P v S) : fin S0 P v S := ⟨v, S, .inl ⟨rfl, rfl⟩, h⟩
theorem finX_keep {S0 S : Sto} {E : PX} {x : Str} (h : E x S) : finX S0 E x S := ⟨S, .inl rfl, h⟩
/-- what is new is taken for good, the store as it was -/
theorem fin_pure {S N : Sto} {P : PV} {v v' : Va} (hz : Fz (S ++ N) S.length v v') (h : P v' S) : fin S P v (S ++ N) :=
  ⟨v', S, .inr ⟨⟨by simp, by simp, fun i o hi e => .inl (by rw [List.getElem?_append_left hi] at e; exact e)⟩, hz⟩, h⟩
theorem fin_pure' {S S1 : Sto} {P : PV} {v v' : Va} (hS : ∃ N, S1 = S ++ N) (hz : Fz S1 S.length v v') (h : P v' S) : fin S P v S1 := by
  obtain ⟨N, rfl⟩ := hS
  exact fin_pure hz h
theorem call_def {T : Tab} {k : Nat} {f : Str} {as : List Va} {S : Sto} {P : PV} {E : PX} {d : Fn} (h : T f = some d) (hl : as.length = d.ps.length)
    (hb : WSs (orc T k) d.body { nx := fun _ S' => fin S P .non S', rt := fin S P, ex := fun x _ S' => finX S E x S' } (startA d.N as) S) : call T (k + 1) f as S P E := ⟨d, h, hl, hb⟩

/-- a while by a word and a measure -/
theorem wh_rule {C : Orc} (hC : OrcMono C) {t : Te} {b : Sms} {D : AEnds} {Γ : Env} {S : Sto} (I : Env → Sto → Prop) (μ : Env → Sto → Nat) (h0 : I Γ S)
    (h : ∀ Γ S, I Γ S → WT C t Γ S (fun k S1 => if k = true then WSs C b { D with nx := fun Γ' S' => I Γ' S' ∧ μ Γ' S' < μ Γ S, ct := fun Γ' S' => I Γ' S' ∧ μ Γ' S' < μ Γ S, bk := D.nx } Γ S1 else D.nx Γ S1) (fun x S1 => D.ex x Γ S1)) :
    WS C (.whil t b) D Γ S := by
  have key : ∀ (m : Nat) (Γ : Env) (S : Sto), I Γ S → μ Γ S < m → whN (fun Γ S P => WT C t Γ S P (fun x S1 => D.ex x Γ S1)) (fun Nx Γ S => WSs C b { D with nx := Nx, ct := Nx, bk := D.nx } Γ S) D.nx m Γ S := by
    intro m
    induction m with
    | zero => intro Γ S _ hm; omega
    | succ m ih =>
      intro Γ S hI hm
      refine WT_mono hC t Γ S _ _ _ _ (fun k S1 h1 => ?_) (fun _ _ z => z) (h Γ S hI)
      cases k with
      | false => exact h1
      | true => exact WSs_mono hC b { D with nx := fun Γ' S' => I Γ' S' ∧ μ Γ' S' < μ Γ S, ct := fun Γ' S' => I Γ' S' ∧ μ Γ' S' < μ Γ S, bk := D.nx } { D with nx := _, ct := _, bk := D.nx } Γ S1 ⟨fun Γ' S' z => ih Γ' S' z.1 (by omega), fun _ _ z => z, fun _ _ z => z, fun Γ' S' z => ih Γ' S' z.1 (by omega), fun _ _ _ z => z⟩ h1
  exact ⟨μ Γ S + 1, key _ Γ S h0 (by omega)⟩
/-- a while whose states are told by a datum, the store as it is -/
theorem wh_ix {C : Orc} (hC : OrcMono C) {α : Type} {t : Te} {b : Sms} {D : AEnds} {S : Sto} (st : α → Env) (P : α → Prop) (μ : α → Nat) (a : α) (h0 : P a)
    (h : ∀ a, P a → WT C t (st a) S (fun k S1 => if k = true then WSs C b { D with nx := fun Γ' S' => ∃ a', Γ' = st a' ∧ S' = S ∧ P a' ∧ μ a' < μ a, ct := fun Γ' S' => ∃ a', Γ' = st a' ∧ S' = S ∧ P a' ∧ μ a' < μ a, bk := D.nx } (st a) S1 else D.nx (st a) S1) (fun x S1 => D.ex x (st a) S1)) :
    WS C (.whil t b) D (st a) S := by
  have key : ∀ (m : Nat) (a : α), P a → μ a < m → whN (fun Γ S P => WT C t Γ S P (fun x S1 => D.ex x Γ S1)) (fun Nx Γ S => WSs C b { D with nx := Nx, ct := Nx, bk := D.nx } Γ S) D.nx m (st a) S := by
    intro m
    induction m with
    | zero => intro a _ hm; omega
    | succ m ih =>
      intro a hI hm
      refine WT_mono hC t _ S _ _ _ _ (fun k S1 h1 => ?_) (fun _ _ z => z) (h a hI)
      cases k with
      | false => exact h1
      | true => exact WSs_mono hC b { D with nx := fun Γ' S' => ∃ a', Γ' = st a' ∧ S' = S ∧ P a' ∧ μ a' < μ a, ct := fun Γ' S' => ∃ a', Γ' = st a' ∧ S' = S ∧ P a' ∧ μ a' < μ a, bk := D.nx } { D with nx := _, ct := _, bk := D.nx } _ S1 ⟨fun Γ' S' ⟨a', e1, e2, z, l⟩ => by rw [e1, e2]; exact ih a' z (by omega), fun _ _ z => z, fun _ _ z => z, fun Γ' S' ⟨a', e1, e2, z, l⟩ => by rw [e1, e2]; exact ih a' z (by omega), fun _ _ _ z => z⟩ h1
  exact ⟨μ a + 1, key _ a h0 (by omega)⟩
theorem st_set0 {o : Option Va} {r : Env} {v : Option Va} : List.set (o :: r) 0 v = v :: r := rfl
theorem st_setS {o : Option Va} {r : Env} {v : Option Va} {i : Nat} : List.set (o :: r) (i + 1) v = o :: List.set r i v := rfl
theorem iteTrue {A B : Prop} : (if (true : Bool) = true then A else B) = A := if_pos rfl
theorem iteFalse {A B : Prop} : (if (false : Bool) = true then A else B) = B := if_neg (by decide)
theorem iteDec {p A B : Prop} [Decidable p] : (if decide p = true then A else B) = (if p then A else B) := by
  by_cases h : p <;> simp [h]
theorem iteNDec {p A B : Prop} [Decidable p] : (if (!decide p) = true then A else B) = (if p then B else A) := by
  by_cases h : p <;> simp [h]
theorem exSome {α : Type} {a : α} {P : α → Prop} : (∃ v, some a = some v ∧ P v) = P a := by
  apply propext
  constructor
  · rintro ⟨v, e, h⟩; cases e; exact h
  · exact fun h => ⟨a, rfl, h⟩
theorem exBl {a : Bool} {P : Bool → Prop} : (∃ b, Va.bl a = Va.bl b ∧ P b) = P a := by
  apply propext
  constructor
  · rintro ⟨v, e, h⟩; cases e; exact h
  · exact fun h => ⟨a, rfl, h⟩
/-! ### the equations, by constructor -/
section
variable {C : Orc} {Γ : Env} {S : Sto} {P : PV} {E : PX} {D : AEnds} {Q : Bool → Sto → Prop} {R : PL}
theorem W_var {i} : W C (.var i) Γ S P E = ∃ v, gt Γ i = some v ∧ P v S := rfl
theorem W_int {i} : W C (.int i) Γ S P E = P (.int i) S := rfl
theorem W_bl {i} : W C (.bl i) Γ S P E = P (.bl i) S := rfl
theorem W_non : W C .non Γ S P E = P .non S := rfl
theorem W_str {i} : W C (.str i) Γ S P E = P (.str i) S := rfl
theorem W_tup {es} : W C (.tup es) Γ S P E = WL C es Γ S (fun vs S1 => vs.length ≤ 1000 ∧ P (.tup vs) S1) E := rfl
theorem W_lst {es} : W C (.lst es) Γ S P E = WL C es Γ S (fun vs S1 => vs.length ≤ 1000 ∧ P (.loc S1.length) (S1 ++ [.lst vs])) E := rfl
theorem W_bin {op a b} : W C (.bin op a b) Γ S P E = W C a Γ S (fun x S1 => W C b Γ S1 (fun y S2 => wBin op x y S2 P) E) E := rfl
theorem W_neg {a} : W C (.neg a) Γ S P E = W C a Γ S (fun x S1 => wNeg x S1 P) E := rfl
theorem W_cmp {op a b} : W C (.cmp op a b) Γ S P E = W C a Γ S (fun x S1 => W C b Γ S1 (fun y S2 => wCmp op x y S2 P) E) E := rfl
theorem W_isN {a} : W C (.isN a) Γ S P E = W C a Γ S (fun x S1 => P (.bl (isNon x)) S1) E := rfl
theorem W_notN {a} : W C (.notN a) Γ S P E = W C a Γ S (fun x S1 => P (.bl (!isNon x)) S1) E := rfl
theorem W_sortk {a q} : W C (.sortk a q) Γ S P E = W C a Γ S (fun x S1 => ∃ (i : Nat) (bs : List (Va × PyData)), S1[i]? = some (.tab q) ∧ LV S1 x (bs.map (·.1)) ∧ (∀ b ∈ bs, ∃ k r, b.1 = .tup (k :: r) ∧ DV S1 k b.2 ∧ tupD b.2 = true) ∧ PySem.W.AllAlike (bs.map (·.2)) ∧ PySem.W.Sortable (bs.map (·.2)) ∧ (∀ b ∈ bs, b.2.depth ≤ 60) ∧ P (.loc S1.length) (S1 ++ [.lst ((bs.mergeSort (PySem.W.dataLe true (·.2))).map (·.1))])) E := rfl
theorem W_maxd {a d} : W C (.maxd a d) Γ S P E = W C a Γ S (fun x S1 => W C d Γ S1 (fun z S2 => ∃ xs ds, LV S2 x xs ∧ DVs S2 xs ds ∧ PySem.W.AlikeAll ds ∧ PyData.depthAll ds ≤ 60 ∧ (ds = [] → P z S2) ∧ ∀ (y : PyData) (ys : List PyData) (i : Nat) (v : Va), ds = y :: ys → xs[i]? = some v → ds[i]? = some (PySem.W.maxD y ys) → P v S2) E) E := rfl
theorem W_lrev {a} : W C (.lrev a) Γ S P E = W C a Γ S (fun x S1 => ∃ xs, (LV S1 x xs ∨ x = .tup xs) ∧ P (.loc S1.length) (S1 ++ [.lst xs.reverse])) E := rfl
theorem W_chain3 {op op' op'' a b c d} : W C (.chain3 op op' op'' a b c d) Γ S P E = W C a Γ S (fun x S1 => W C b Γ S1 (fun y S2 => wCmp op x y S2 (fun z S3 => ∃ k, z = .bl k ∧ if k = true then W C c Γ S3 (fun u S4 => wCmp op' y u S4 (fun z S5 => ∃ k, z = .bl k ∧ if k = true then W C d Γ S5 (fun v S6 => wCmp op'' u v S6 P) E else P (.bl false) S5)) E else P (.bl false) S3)) E) E := rfl
theorem W_chain {op op' a b c} : W C (.chain op op' a b c) Γ S P E = W C a Γ S (fun x S1 => W C b Γ S1 (fun y S2 => wCmp op x y S2 (fun z S3 => ∃ k, z = .bl k ∧ if k = true then W C c Γ S3 (fun u S4 => wCmp op' y u S4 P) E else P (.bl false) S3)) E) E := rfl
theorem W_tst {t} : W C (.tst t) Γ S P E = WB C t Γ S P E := rfl
theorem W_ite {t a b} : W C (.ite t a b) Γ S P E = WT C t Γ S (fun k S1 => if k = true then W C a Γ S1 P E else W C b Γ S1 P E) E := rfl
theorem W_call {f es} : W C (.call f es) Γ S P E = WL C es Γ S (fun vs S1 => C.run f vs S1 P E) E := rfl
theorem W_evens {a} : W C (.evens a) Γ S P E = W C a Γ S (fun x S1 => ∃ xs, LV S1 x xs ∧ P (.loc S1.length) (S1 ++ [.lst (evensL xs)])) E := rfl
theorem W_callv {i es} : W C (.callv i es) Γ S P E = ∃ z ws, gt Γ i = some (.fnv z ws) ∧ z ∈ C.fns ∧ WL C es Γ S (fun vs S1 => C.run z.id (vs ++ ws) S1 P E) E := rfl
theorem W_callc {f es id q js} : W C (.callc f es id q js) Γ S P E = ∃ ws, capsA Γ js = some ws ∧ WL C es Γ S (fun vs S1 => hasTab S1 q ∧ ∀ z : Clo, z.id = id → C.runC z f (vs ++ [.fnv z ws]) S1 P E) E := rfl
theorem W_mcallc {o m es id q js} : W C (.mcallc o m es id q js) Γ S P E = ∃ ws, capsA Γ js = some ws ∧ W C o Γ S (fun x S1 => ∃ k, x = .loc k ∧ ∃ ob, S1[k]? = some ob ∧ ∃ key, mkey C m ob = some key ∧ WL C es Γ S1 (fun vs S2 => hasTab S2 q ∧ ∀ z : Clo, z.id = id → C.runC z key (x :: vs ++ [.fnv z ws]) S2 P E) E) E := rfl
theorem W_len {a} : W C (.len a) Γ S P E = W C a Γ S (fun x S1 => wLen x S1 P) E := rfl
theorem W_abs {a} : W C (.abs a) Γ S P E = W C a Γ S (fun x S1 => wAbs x S1 P) E := rfl
theorem W_isi {a t} : W C (.isi a t) Γ S P E = W C a Γ S (fun x S1 => ∃ b, tyIs S1 x t = some b ∧ P (.bl b) S1) E := rfl
theorem W_sub {a i} : W C (.sub a i) Γ S P E = W C a Γ S (fun x S1 => W C i Γ S1 (fun y S2 => wSub x y S2 P) E) E := rfl
theorem WT_val {e} : WT C (.val e) Γ S Q E = W C e Γ S (fun v S1 => ∃ b, tru S1 v = some b ∧ Q b S1) E := rfl
theorem WT_not {t} : WT C (.not t) Γ S Q E = WT C t Γ S (fun b S1 => Q (!b) S1) E := rfl
theorem WT_and {ts} : WT C (.and ts) Γ S Q E = WA C ts Γ S Q E := rfl
theorem WT_or {ts} : WT C (.or ts) Γ S Q E = WO C ts Γ S Q E := rfl
theorem WA_one {t} : WA C (.one t) Γ S Q E = WT C t Γ S Q E := rfl
theorem WA_cons {t ts} : WA C (.cons t ts) Γ S Q E = WT C t Γ S (fun b S1 => if b = true then WA C ts Γ S1 Q E else Q false S1) E := rfl
theorem WO_one {t} : WO C (.one t) Γ S Q E = WT C t Γ S Q E := rfl
theorem WO_cons {t ts} : WO C (.cons t ts) Γ S Q E = WT C t Γ S (fun b S1 => if b = true then Q true S1 else WO C ts Γ S1 Q E) E := rfl
theorem WB_val {e} : WB C (.val e) Γ S P E = W C e Γ S P E := rfl
theorem WB_not {t} : WB C (.not t) Γ S P E = WB C t Γ S (fun v S1 => ∃ b, v = .bl b ∧ P (.bl (!b)) S1) E := rfl
theorem WB_and {ts} : WB C (.and ts) Γ S P E = WBA C ts Γ S P E := rfl
theorem WB_or {ts} : WB C (.or ts) Γ S P E = WBO C ts Γ S P E := rfl
theorem WBA_one {t} : WBA C (.one t) Γ S P E = WB C t Γ S P E := rfl
theorem WBA_cons {t ts} : WBA C (.cons t ts) Γ S P E = WB C t Γ S (fun v S1 => ∃ b, tru S1 v = some b ∧ if b = true then WBA C ts Γ S1 P E else P v S1) E := rfl
theorem WBO_one {t} : WBO C (.one t) Γ S P E = WB C t Γ S P E := rfl
theorem WBO_cons {t ts} : WBO C (.cons t ts) Γ S P E = WB C t Γ S (fun v S1 => ∃ b, tru S1 v = some b ∧ if b = true then P v S1 else WBO C ts Γ S1 P E) E := rfl
theorem WL_nil : WL C .nil Γ S R E = R [] S := rfl
theorem WL_cons {e es} : WL C (.cons e es) Γ S R E = W C e Γ S (fun v S1 => WL C es Γ S1 (fun vs S2 => R (v :: vs) S2) E) E := rfl
theorem WS_set {i e} : WS C (.set i e) D Γ S = W C e Γ S (fun v S1 => D.nx (Γ.set i (some v)) S1) (fun x S1 => D.ex x Γ S1) := rfl
theorem WS_ret {e} : WS C (.ret e) D Γ S = W C e Γ S D.rt (fun x S1 => D.ex x Γ S1) := rfl
theorem WS_retN : WS C .retN D Γ S = D.rt .non S := rfl
theorem WS_pass : WS C .pass D Γ S = D.nx Γ S := rfl
theorem WS_brk : WS C .brk D Γ S = D.bk Γ S := rfl
theorem WS_cont : WS C .cont D Γ S = D.ct Γ S := rfl
theorem WS_drop {e} : WS C (.drop e) D Γ S = W C e Γ S (fun _ S1 => D.nx Γ S1) (fun x S1 => D.ex x Γ S1) := rfl
theorem WS_ite {t a b} : WS C (.ite t a b) D Γ S = WT C t Γ S (fun k S1 => if k = true then WSs C a D Γ S1 else WSs C b D Γ S1) (fun x S1 => D.ex x Γ S1) := rfl
theorem WS_raise {x} : WS C (.raise x) D Γ S = D.ex x Γ S := rfl
theorem WSs_nil : WSs C .nil D Γ S = D.nx Γ S := rfl
theorem WSs_cons {s ss} : WSs C (.cons s ss) D Γ S = WS C s { D with nx := fun Γ S => WSs C ss D Γ S } Γ S := rfl
theorem Ss_set {i e ss} : WSs C (.cons (.set i e) ss) D Γ S = W C e Γ S (fun v S1 => WSs C ss D (Γ.set i (some v)) S1) (fun x S1 => D.ex x Γ S1) := rfl
theorem Ss_ret {e ss} : WSs C (.cons (.ret e) ss) D Γ S = W C e Γ S D.rt (fun x S1 => D.ex x Γ S1) := rfl
theorem Ss_retN {ss} : WSs C (.cons .retN ss) D Γ S = D.rt .non S := rfl
theorem Ss_pass {ss} : WSs C (.cons .pass ss) D Γ S = WSs C ss D Γ S := rfl
theorem Ss_brk {ss} : WSs C (.cons .brk ss) D Γ S = D.bk Γ S := rfl
theorem Ss_cont {ss} : WSs C (.cons .cont ss) D Γ S = D.ct Γ S := rfl
theorem Ss_drop {e ss} : WSs C (.cons (.drop e) ss) D Γ S = W C e Γ S (fun _ S1 => WSs C ss D Γ S1) (fun x S1 => D.ex x Γ S1) := rfl
theorem Ss_raise {x ss} : WSs C (.cons (.raise x) ss) D Γ S = D.ex x Γ S := rfl
/-- a branch that goes on nowhere -/
theorem Ss_ite_ret {t e r b ss} : WSs C (.cons (.ite t (.cons (.ret e) r) b) ss) D Γ S = WT C t Γ S (fun k S1 => if k = true then W C e Γ S1 D.rt (fun x S1 => D.ex x Γ S1) else WSs C b { D with nx := fun Γ S => WSs C ss D Γ S } Γ S1) (fun x S1 => D.ex x Γ S1) := rfl
theorem Ss_ite_retN {t r b ss} : WSs C (.cons (.ite t (.cons .retN r) b) ss) D Γ S = WT C t Γ S (fun k S1 => if k = true then D.rt .non S1 else WSs C b { D with nx := fun Γ S => WSs C ss D Γ S } Γ S1) (fun x S1 => D.ex x Γ S1) := rfl
theorem Ss_ite_raise {t x r b ss} : WSs C (.cons (.ite t (.cons (.raise x) r) b) ss) D Γ S = WT C t Γ S (fun k S1 => if k = true then D.ex x Γ S1 else WSs C b { D with nx := fun Γ S => WSs C ss D Γ S } Γ S1) (fun x S1 => D.ex x Γ S1) := rfl
theorem Ss_ite_cont {t r b ss} : WSs C (.cons (.ite t (.cons .cont r) b) ss) D Γ S = WT C t Γ S (fun k S1 => if k = true then D.ct Γ S1 else WSs C b { D with nx := fun Γ S => WSs C ss D Γ S } Γ S1) (fun x S1 => D.ex x Γ S1) := rfl
theorem Ss_ite_brk {t r b ss} : WSs C (.cons (.ite t (.cons .brk r) b) ss) D Γ S = WT C t Γ S (fun k S1 => if k = true then D.bk Γ S1 else WSs C b { D with nx := fun Γ S => WSs C ss D Γ S } Γ S1) (fun x S1 => D.ex x Γ S1) := rfl
/-- the last statement -/
theorem Ss_ite_last {t a b} : WSs C (.cons (.ite t a b) .nil) D Γ S = WT C t Γ S (fun k S1 => if k = true then WSs C a D Γ S1 else WSs C b D Γ S1) (fun x S1 => D.ex x Γ S1) := rfl
/-- .. any other: both ways -/
theorem Ss_ite {t a b ss} : WSs C (.cons (.ite t a b) ss) D Γ S = WT C t Γ S (fun k S1 => if k = true then WSs C a { D with nx := fun Γ S => WSs C ss D Γ S } Γ S1 else WSs C b { D with nx := fun Γ S => WSs C ss D Γ S } Γ S1) (fun x S1 => D.ex x Γ S1) := rfl
theorem gt_0 {o : Option Va} {r : Env} : gt (o :: r) 0 = o := rfl
theorem gt_S {o : Option Va} {r : Env} {i : Nat} : gt (o :: r) (i + 1) = gt r i := rfl
theorem wAdd_int {i j : Int} : wBin .add (.int i) (.int j) S P = P (.int (i + j)) S := rfl
theorem wSub_int {i j : Int} : wBin .sub (.int i) (.int j) S P = P (.int (i - j)) S := rfl
theorem wMul_rep {k : Nat} {i : Int} : wBin .mul (.loc k) (.int i) S P = ∃ xs, S[k]? = some (.lst xs) ∧ -(2 ^ 62) ≤ i ∧ i < 2 ^ 62 ∧ xs.length * i.toNat ≤ 1000000 ∧ P (.loc S.length) (S ++ [.lst (List.replicate i.toNat xs).flatten]) := rfl
theorem wMul_str {z : Str} {i : Int} : wBin .mul (.str z) (.int i) S P = (2 ≤ i ∧ i < 2 ^ 31 ∧ 0 < z.length ∧ z.length * i.toNat ≤ 1000000 ∧ P (.str ⟨(List.replicate i.toNat z.cps).foldl (· ++ ·) #[]⟩) S) := rfl
theorem wMul_int {i j : Int} : wBin .mul (.int i) (.int j) S P = (CMulA i j ∧ P (.int (i * j)) S) := rfl
theorem wDiv_int {i j : Int} : wBin .fdiv (.int i) (.int j) S P = (CDivA j ∧ P (.int (i.fdiv j)) S) := rfl
theorem wMod_int {i j : Int} : wBin .mod (.int i) (.int j) S P = (j ≠ 0 ∧ P (.int (i.fmod j)) S) := rfl
theorem wPow_int {i j : Int} : wBin .pow (.int i) (.int j) S P = (CPow i j ∧ P (.int (i ^ j.toNat)) S) := rfl
theorem wAdd_str {i j : Str} : wBin .add (.str i) (.str j) S P = (i.length + j.length ≤ sizeLine ∧ P (.str (i ++ j)) S) := rfl
theorem wNeg_int {i : Int} : wNeg (.int i) S P = P (.int (-i)) S := rfl
theorem wAbs_int {i : Int} : wAbs (.int i) S P = P (.int (if i < 0 then -i else i)) S := rfl
theorem wLt_int {i j : Int} : wCmp .lt (.int i) (.int j) S P = P (.bl (decide (i < j))) S := rfl
theorem wLe_int {i j : Int} : wCmp .le (.int i) (.int j) S P = P (.bl (decide (i ≤ j))) S := rfl
theorem wGt_int {i j : Int} : wCmp .gt (.int i) (.int j) S P = P (.bl (decide (j < i))) S := rfl
theorem wGe_int {i j : Int} : wCmp .ge (.int i) (.int j) S P = P (.bl (decide (j ≤ i))) S := rfl
theorem noDEq {x y : Va} (hs : AM.scal x y = true) (h : DEq S x y) : False := by
  obtain ⟨ks, ls, h1, _⟩ := h
  rcases h1 with rfl | ⟨k, rfl, _⟩ <;> cases y <;> cases hs
theorem eq_data {x y : Va} (hs : AM.scal x y = true) (he : ∀ d e, DV S x d → DV S y e → PyData.eqv d e = eqF x y) : wCmp .eq x y S P = P (.bl (eqF x y)) S := by
  apply propext
  simp only [wCmp]
  constructor
  · rintro ((⟨_, h⟩ | ⟨h1, _⟩) | ⟨d, e, h1, h2, _, _, h⟩)
    · exact h
    · exact (noDEq hs h1).elim
    · rwa [he d e h1 h2] at h
  · exact fun h => .inl (.inl ⟨hs, h⟩)
theorem ne_data {x y : Va} (hs : AM.scal x y = true) (he : ∀ d e, DV S x d → DV S y e → PyData.eqv d e = eqF x y) : wCmp .ne x y S P = P (.bl (!eqF x y)) S := by
  apply propext
  simp only [wCmp]
  constructor
  · rintro ((⟨_, h⟩ | ⟨h1, _⟩) | ⟨d, e, h1, h2, _, _, h⟩)
    · exact h
    · exact (noDEq hs h1).elim
    · rwa [he d e h1 h2] at h
  · exact fun h => .inl (.inl ⟨hs, h⟩)
theorem wEq_int {i j : Int} : wCmp .eq (.int i) (.int j) S P = P (.bl (decide (i = j))) S := eq_data rfl fun d e h1 h2 => by
  cases h1; cases h2; simp [PyData.eqv, eqF, Bool.beq_eq_decide_eq]
theorem wNe_int {i j : Int} : wCmp .ne (.int i) (.int j) S P = P (.bl (!decide (i = j))) S := ne_data rfl fun d e h1 h2 => by
  cases h1; cases h2; simp [PyData.eqv, eqF, Bool.beq_eq_decide_eq]
theorem wEq_bl {i j : Bool} : wCmp .eq (.bl i) (.bl j) S P = P (.bl (decide (i = j))) S := eq_data rfl fun d e h1 h2 => by
  cases h1; cases h2; simp [PyData.eqv, eqF, Bool.beq_eq_decide_eq]
theorem wNe_bl {i j : Bool} : wCmp .ne (.bl i) (.bl j) S P = P (.bl (!decide (i = j))) S := ne_data rfl fun d e h1 h2 => by
  cases h1; cases h2; simp [PyData.eqv, eqF, Bool.beq_eq_decide_eq]
theorem wEq_str {i j : Str} : wCmp .eq (.str i) (.str j) S P = P (.bl (decide (i = j))) S := eq_data rfl fun d e h1 h2 => by
  cases h1; cases h2; simp [PyData.eqv, eqF, Bool.beq_eq_decide_eq]
theorem wNe_str {i j : Str} : wCmp .ne (.str i) (.str j) S P = P (.bl (!decide (i = j))) S := ne_data rfl fun d e h1 h2 => by
  cases h1; cases h2; simp [PyData.eqv, eqF, Bool.beq_eq_decide_eq]
theorem wLen_tup {xs : List Va} : wLen (.tup xs) S P = P (.int xs.length) S := rfl
theorem wLen_lst {xs : List Va} : wLen (.lst xs) S P = P (.int xs.length) S := rfl
theorem tru_bl {b : Bool} : tru S (.bl b) = some b := rfl
theorem tru_int {i : Int} : tru S (.int i) = some (i != 0) := rfl
theorem ty_int_int {i : Int} : tyIs S (.int i) .int = some true := rfl
theorem ty_int_bool {i : Int} : tyIs S (.int i) .bool = some false := rfl
theorem ty_int_str {i : Int} : tyIs S (.int i) .str = some false := rfl
theorem ty_int_tuple {i : Int} : tyIs S (.int i) .tuple = some false := rfl
theorem ty_int_list {i : Int} : tyIs S (.int i) .list = some false := rfl
theorem ty_int_dict {i : Int} : tyIs S (.int i) .dict = some false := rfl
theorem ty_bl_int {i : Bool} : tyIs S (.bl i) .int = some true := rfl
theorem ty_bl_bool {i : Bool} : tyIs S (.bl i) .bool = some true := rfl
theorem ty_bl_str {i : Bool} : tyIs S (.bl i) .str = some false := rfl
theorem ty_bl_tuple {i : Bool} : tyIs S (.bl i) .tuple = some false := rfl
theorem ty_bl_list {i : Bool} : tyIs S (.bl i) .list = some false := rfl
theorem ty_bl_dict {i : Bool} : tyIs S (.bl i) .dict = some false := rfl
theorem ty_str_int {i : Str} : tyIs S (.str i) .int = some false := rfl
theorem ty_str_bool {i : Str} : tyIs S (.str i) .bool = some false := rfl
theorem ty_str_str {i : Str} : tyIs S (.str i) .str = some true := rfl
theorem ty_str_tuple {i : Str} : tyIs S (.str i) .tuple = some false := rfl
theorem ty_str_list {i : Str} : tyIs S (.str i) .list = some false := rfl
theorem ty_str_dict {i : Str} : tyIs S (.str i) .dict = some false := rfl
theorem ty_tup_int {i : List Va} : tyIs S (.tup i) .int = some false := rfl
theorem ty_tup_bool {i : List Va} : tyIs S (.tup i) .bool = some false := rfl
theorem ty_tup_str {i : List Va} : tyIs S (.tup i) .str = some false := rfl
theorem ty_tup_tuple {i : List Va} : tyIs S (.tup i) .tuple = some true := rfl
theorem ty_tup_list {i : List Va} : tyIs S (.tup i) .list = some false := rfl
theorem ty_tup_dict {i : List Va} : tyIs S (.tup i) .dict = some false := rfl
theorem ty_lst_int {i : List Va} : tyIs S (.lst i) .int = some false := rfl
theorem ty_lst_bool {i : List Va} : tyIs S (.lst i) .bool = some false := rfl
theorem ty_lst_str {i : List Va} : tyIs S (.lst i) .str = some false := rfl
theorem ty_lst_tuple {i : List Va} : tyIs S (.lst i) .tuple = some false := rfl
theorem ty_lst_list {i : List Va} : tyIs S (.lst i) .list = some true := rfl
theorem ty_lst_dict {i : List Va} : tyIs S (.lst i) .dict = some false := rfl
theorem ty_dct_int {i : List (L2.Key × Va)} : tyIs S (.dct i) .int = some false := rfl
theorem ty_dct_bool {i : List (L2.Key × Va)} : tyIs S (.dct i) .bool = some false := rfl
theorem ty_dct_str {i : List (L2.Key × Va)} : tyIs S (.dct i) .str = some false := rfl
theorem ty_dct_tuple {i : List (L2.Key × Va)} : tyIs S (.dct i) .tuple = some false := rfl
theorem ty_dct_list {i : List (L2.Key × Va)} : tyIs S (.dct i) .list = some false := rfl
theorem ty_dct_dict {i : List (L2.Key × Va)} : tyIs S (.dct i) .dict = some true := rfl
theorem ty_non {t : Ty} : tyIs S .non t = some false := rfl
theorem wSub_tup {xs : List Va} {i : Int} : wSub (.tup xs) (.int i) S P = ∃ v, L2.atI xs i = some v ∧ P v S := rfl
theorem wSub_lst {xs : List Va} {i : Int} : wSub (.lst xs) (.int i) S P = ∃ v, L2.atI xs i = some v ∧ P v S := rfl
theorem sub_tup0 {x0 : Va} {xs : List Va} : wSub (.tup (x0 :: xs)) (.int 0) S P = P x0 S := by
  have h : L2.atI (x0 :: xs) 0 = some x0 := L2.atI_nat (j := 0) rfl
  rw [wSub_tup, h, exSome]
theorem sub_tup1 {x0 x1 : Va} {xs : List Va} : wSub (.tup (x0 :: x1 :: xs)) (.int 1) S P = P x1 S := by
  have h : L2.atI (x0 :: x1 :: xs) 1 = some x1 := L2.atI_nat (j := 1) rfl
  rw [wSub_tup, h, exSome]
theorem sub_tup2 {x0 x1 x2 : Va} {xs : List Va} : wSub (.tup (x0 :: x1 :: x2 :: xs)) (.int 2) S P = P x2 S := by
  have h : L2.atI (x0 :: x1 :: x2 :: xs) 2 = some x2 := L2.atI_nat (j := 2) rfl
  rw [wSub_tup, h, exSome]
theorem sub_tup3 {x0 x1 x2 x3 : Va} {xs : List Va} : wSub (.tup (x0 :: x1 :: x2 :: x3 :: xs)) (.int 3) S P = P x3 S := by
  have h : L2.atI (x0 :: x1 :: x2 :: x3 :: xs) 3 = some x3 := L2.atI_nat (j := 3) rfl
  rw [wSub_tup, h, exSome]
theorem sub_tup4 {x0 x1 x2 x3 x4 : Va} {xs : List Va} : wSub (.tup (x0 :: x1 :: x2 :: x3 :: x4 :: xs)) (.int 4) S P = P x4 S := by
  have h : L2.atI (x0 :: x1 :: x2 :: x3 :: x4 :: xs) 4 = some x4 := L2.atI_nat (j := 4) rfl
  rw [wSub_tup, h, exSome]
theorem sub_tup5 {x0 x1 x2 x3 x4 x5 : Va} {xs : List Va} : wSub (.tup (x0 :: x1 :: x2 :: x3 :: x4 :: x5 :: xs)) (.int 5) S P = P x5 S := by
  have h : L2.atI (x0 :: x1 :: x2 :: x3 :: x4 :: x5 :: xs) 5 = some x5 := L2.atI_nat (j := 5) rfl
  rw [wSub_tup, h, exSome]
theorem sub_lst0 {x0 : Va} {xs : List Va} : wSub (.lst (x0 :: xs)) (.int 0) S P = P x0 S := by
  have h : L2.atI (x0 :: xs) 0 = some x0 := L2.atI_nat (j := 0) rfl
  rw [wSub_lst, h, exSome]
theorem sub_lst1 {x0 x1 : Va} {xs : List Va} : wSub (.lst (x0 :: x1 :: xs)) (.int 1) S P = P x1 S := by
  have h : L2.atI (x0 :: x1 :: xs) 1 = some x1 := L2.atI_nat (j := 1) rfl
  rw [wSub_lst, h, exSome]
theorem sub_lst2 {x0 x1 x2 : Va} {xs : List Va} : wSub (.lst (x0 :: x1 :: x2 :: xs)) (.int 2) S P = P x2 S := by
  have h : L2.atI (x0 :: x1 :: x2 :: xs) 2 = some x2 := L2.atI_nat (j := 2) rfl
  rw [wSub_lst, h, exSome]
theorem sub_lst3 {x0 x1 x2 x3 : Va} {xs : List Va} : wSub (.lst (x0 :: x1 :: x2 :: x3 :: xs)) (.int 3) S P = P x3 S := by
  have h : L2.atI (x0 :: x1 :: x2 :: x3 :: xs) 3 = some x3 := L2.atI_nat (j := 3) rfl
  rw [wSub_lst, h, exSome]
theorem sub_lst4 {x0 x1 x2 x3 x4 : Va} {xs : List Va} : wSub (.lst (x0 :: x1 :: x2 :: x3 :: x4 :: xs)) (.int 4) S P = P x4 S := by
  have h : L2.atI (x0 :: x1 :: x2 :: x3 :: x4 :: xs) 4 = some x4 := L2.atI_nat (j := 4) rfl
  rw [wSub_lst, h, exSome]
theorem sub_lst5 {x0 x1 x2 x3 x4 x5 : Va} {xs : List Va} : wSub (.lst (x0 :: x1 :: x2 :: x3 :: x4 :: x5 :: xs)) (.int 5) S P = P x5 S := by
  have h : L2.atI (x0 :: x1 :: x2 :: x3 :: x4 :: x5 :: xs) 5 = some x5 := L2.atI_nat (j := 5) rfl
  rw [wSub_lst, h, exSome]
end
/-- two statements, by what holds between -/
theorem seq_cut {C : Orc} (hC : OrcMono C) {s : Sm} {ss : Sms} {D : AEnds} {Γ : Env} {S : Sto} (M : Env → Sto → Prop) (h1 : WS C s { D with nx := M } Γ S) (h2 : ∀ Γ' S', M Γ' S' → WSs C ss D Γ' S') : WSs C (.cons s ss) D Γ S :=
  WS_mono hC s { D with nx := M } { D with nx := fun Γ S => WSs C ss D Γ S } Γ S ⟨h2, fun _ _ z => z, fun _ _ z => z, fun _ _ z => z, fun _ _ _ z => z⟩ h1
/-- .. where the environment and the store behind the first are known -/
theorem seq_to {C : Orc} (hC : OrcMono C) {s : Sm} {ss : Sms} {D : AEnds} {Γ : Env} {S : Sto} (Γ1 : Env) (S1 : Sto) (h1 : WS C s { D with nx := fun Γ' S' => Γ' = Γ1 ∧ S' = S1 } Γ S) (h2 : WSs C ss D Γ1 S1) : WSs C (.cons s ss) D Γ S :=
  seq_cut hC _ h1 (fun Γ' S' ⟨e1, e2⟩ => by rw [e1, e2]; exact h2)
theorem startA_eq {N : List Str} {as : List Va} : startA N as = as.map some ++ List.replicate (N.length - as.length) none := rfl
/-! ### lists, walks -/
/-- the turns of a for -/
def forB (C : Orc) (tg : Tg) (b : Sms) (D : AEnds) (G : Sto → Prop) (xs : List Va) (Γ : Env) (S : Sto) : Prop :=
  frL (fun x Γ S => bindT S tg x Γ) (fun Nx Γ S => WSs C b { D with nx := Nx, ct := Nx, bk := D.nx } Γ S) G D.nx xs Γ S
/-- the turns of a comprehension -/
def cpB (C : Orc) (own : List Nat) (elt : Ex) (tg : Tg) (cond : Tes0) (G : Sto → Prop) (d : Nat) (P : PV) (xs : List Va) (Γ : Env) (S : Sto) : Prop :=
  cpL (fun x S => bindT S tg x (wipeA Γ own)) (fun Γ S Q => WT0 C cond Γ S Q) (fun Γ S Q => W C elt Γ S Q (fun _ _ => False)) G d P xs S
section
variable {C : Orc} {Γ : Env} {S : Sto} {P : PV} {E : PX} {D : AEnds} {Q : Bool → Sto → Prop} {R : PL} {I : PI_} {O : Option Int → Sto → Prop}
theorem W_slice {a lo hi} : W C (.slice a lo hi) Γ S P E = W C a Γ S (fun x S1 => WOe C lo Γ S1 (fun l S2 => WOe C hi Γ S2 (fun h S3 => wSlice x l h S3 P) E) E) E := rfl
theorem W_blt {f es} : W C (.blt f es) Γ S P E = WL C es Γ S (fun vs S1 => wBlt f vs S1 P) E := rfl
theorem W_mth {m o es} : W C (.mth m o es) Γ S P E = W C o Γ S (fun x S1 => mOk S1 m x ∧ WL C es Γ S1 (fun vs S2 => wMth m x vs S2 P) E) E := rfl
theorem WOe_none : WOe C .none Γ S O E = O none S := rfl
theorem WOe_some {e} : WOe C (.some e) Γ S O E = W C e Γ S (fun v S1 => ∃ i, v = .int i ∧ O (some i) S1) E := rfl
theorem WI_seq {e} : WI C (.seq e) Γ S I E = W C e Γ S (fun v S1 => wSeq v S1 I) E := rfl
theorem WI_range1 {a} : WI C (.range1 a) Γ S I E = W C a Γ S (fun v S1 => ∃ i : Int, v = .int i ∧ -(2 ^ 62) ≤ i ∧ i < 2 ^ 62 ∧ I (rangeV 0 i.toNat) (fun _ => True) S1) E := rfl
theorem WI_keys {e} : WI C (.keys e) Γ S I E = W C e Γ S (fun v S1 => ∃ k, v = .loc k ∧ ∃ kvs, S1[k]? = some (.lok kvs) ∧ I (kvs.map fun kv => keyA kv.1) (fun _ => True) S1) E := rfl
theorem WI_items {e} : WI C (.items e) Γ S I E = W C e Γ S (fun v S1 => ∃ k, v = .loc k ∧ ∃ kvs, S1[k]? = some (.lok kvs) ∧ I (kvs.map fun kv => .tup [keyA kv.1, kv.2]) (fun _ => True) S1) E := rfl
theorem subO_k {kvs y} : subO (.lok kvs) y S P = ∃ kk, keyV y = some kk ∧ ∃ v, dget kvs kk = some v ∧ P v S := by cases y <;> rfl
theorem WI_range2 {a b} : WI C (.range2 a b) Γ S I E = W C a Γ S (fun v S1 => W C b Γ S1 (fun u S2 => ∃ i : Int, v = .int i ∧ ∃ j : Int, u = .int j ∧ (-(2 ^ 62) ≤ i ∧ i < 2 ^ 62 ∧ -(2 ^ 62) ≤ j ∧ j < 2 ^ 62) ∧ I (rangeV i (j - i).toNat) (fun _ => True) S2) E) E := rfl
theorem WI_enum {e} : WI C (.enum e) Γ S I E = W C e Γ S (fun v S1 => wEn v S1 fun xs G S2 => I (enumV 0 xs) G S2) E := rfl
theorem WI_zip {a b} : WI C (.zip a b) Γ S I E = W C a Γ S (fun v S1 => W C b Γ S1 (fun u S2 => wLst v S2 fun xs G S3 => wLst u S3 fun ys G' S4 => I (zipV xs ys) (fun S' => G S' ∧ G' S') S4) E) E := rfl
theorem WI_revr {a} : WI C (.revr a) Γ S I E = W C a Γ S (fun v S1 => ∃ i : Int, v = .int i ∧ (-(2 ^ 62) ≤ i ∧ i < 2 ^ 62) ∧ I (rangeDV (((i.toNat : Nat) : Int) - 1) i.toNat) (fun _ => True) S1) E := rfl
theorem WI_rangeD {a b} : WI C (.rangeD a b) Γ S I E = W C a Γ S (fun v S1 => W C b Γ S1 (fun u S2 => ∃ i : Int, v = .int i ∧ ∃ j : Int, u = .int j ∧ (-(2 ^ 62) ≤ i ∧ i < 2 ^ 62 ∧ -(2 ^ 62) ≤ j ∧ j < 2 ^ 62) ∧ I (rangeDV i (i - j).toNat) (fun _ => True) S2) E) E := rfl
theorem WI_rev {e} : WI C (.rev e) Γ S I E = W C e Γ S (fun v S1 => wLst v S1 fun xs G S2 => I xs.reverse G S2) E := rfl
theorem WT0_none : WT0 C .none Γ S Q = Q true S := rfl
theorem WT0_some {t} : WT0 C (.some t) Γ S Q = WT C t Γ S Q (fun _ _ => False) := rfl
theorem Ss_asg {tg e ss} : WSs C (.cons (.asg tg e) ss) D Γ S = W C e Γ S (fun v S1 => ∃ Γ1, bindT S1 tg v Γ = some Γ1 ∧ WSs C ss D Γ1 S1) (fun x S1 => D.ex x Γ S1) := rfl
theorem Ss_setSub {o i e ss} : WSs C (.cons (.setSub o i e) ss) D Γ S = W C e Γ S (fun v S1 => W C o Γ S1 (fun x S2 => W C i Γ S2 (fun y S3 => ∃ k, x = .loc k ∧ ∃ ob, S3[k]? = some ob ∧ ∃ ob', putO ob y v = some ob' ∧ WSs C ss D Γ (S3.set k ob')) (fun x S1 => D.ex x Γ S1)) (fun x S1 => D.ex x Γ S1)) (fun x S1 => D.ex x Γ S1) := rfl
theorem Ss_aug {i op e ss} : WSs C (.cons (.aug i op e) ss) D Γ S = ∃ x, gt Γ i = some x ∧ W C e Γ S (fun y S1 => ∃ n : Int, x = .int n ∧ ∃ m : Int, y = .int m ∧ ∃ r : Int, augI op n m = some r ∧ WSs C ss D (Γ.set i (some (.int r))) S1) (fun x S1 => D.ex x Γ S1) := rfl
theorem WS_asg {tg e} : WS C (.asg tg e) D Γ S = W C e Γ S (fun v S1 => ∃ Γ1, bindT S1 tg v Γ = some Γ1 ∧ D.nx Γ1 S1) (fun x S1 => D.ex x Γ S1) := rfl
theorem WS_for {tg it b} : WS C (.for_ tg it b) D Γ S = WI C it Γ S (fun xs G S1 => G S1 ∧ forB C tg b D G xs Γ S1) (fun x S1 => D.ex x Γ S1) := rfl
theorem W_comp {own elt tg it cond} : W C (.comp own elt tg it cond) Γ S P E = WI C it Γ S (fun xs G S1 => G (S1 ++ [.lst []]) ∧ cpB C own elt tg cond G S1.length P xs Γ (S1 ++ [.lst []])) E := rfl
theorem Ss_setC {i own elt tg it cond ss} : WSs C (.cons (.setC i own elt tg it cond) ss) D Γ S = WI C it Γ S (fun xs G S1 => G (S1 ++ [.lst []]) ∧ cpB C own elt tg cond G S1.length (fun v S2 => WSs C ss D (Γ.set i (some v)) S2) xs Γ (S1 ++ [.lst []])) (fun x S1 => D.ex x Γ S1) := rfl
theorem WS_setC {i own elt tg it cond} : WS C (.setC i own elt tg it cond) D Γ S = WI C it Γ S (fun xs G S1 => G (S1 ++ [.lst []]) ∧ cpB C own elt tg cond G S1.length (fun v S2 => D.nx (Γ.set i (some v)) S2) xs Γ (S1 ++ [.lst []])) (fun x S1 => D.ex x Γ S1) := rfl
theorem WS_aug {i op e} : WS C (.aug i op e) D Γ S = ∃ x, gt Γ i = some x ∧ W C e Γ S (fun y S1 => ∃ n : Int, x = .int n ∧ ∃ m : Int, y = .int m ∧ ∃ r : Int, augI op n m = some r ∧ D.nx (Γ.set i (some (.int r))) S1) (fun x S1 => D.ex x Γ S1) := rfl
theorem bT_name {i v} : bindT S (.name i) v Γ = some (Γ.set i (some v)) := rfl
theorem bT_tup {ts xs} : bindT S (.tup ts) (.tup xs) Γ = bindTs S ts xs Γ := rfl
theorem bT_lst {ts xs} : bindT S (.tup ts) (.lst xs) Γ = bindTs S ts xs Γ := rfl
theorem bT_loc {ts k xs} (h : S[k]? = some (.lst xs)) : bindT S (.tup ts) (.loc k) Γ = bindTs S ts xs Γ := by
  simp only [bindT, partsOf, h]
theorem bTs_nil : bindTs S .nil [] Γ = some Γ := rfl
theorem bTs_cons {t ts x xs} {Γ1 : Env} (h : bindT S t x Γ = some Γ1) : bindTs S (.cons t ts) (x :: xs) Γ = bindTs S ts xs Γ1 := by
  simp only [bindTs, h]
theorem bTs_name {i ts x xs} : bindTs S (.cons (.name i) ts) (x :: xs) Γ = bindTs S ts xs (Γ.set i (some x)) := rfl
theorem seq_lst {xs} : wSeq (.lst xs) S I = I xs (fun _ => True) S := rfl
theorem seq_tup {xs} : wSeq (.tup xs) S I = I xs (fun _ => True) S := rfl
theorem seq_scr {ns} : wSeq (.scr ns) S I = I (ns.map Va.int) (fun _ => True) S := rfl
theorem seq_str {z} : wSeq (.str z) S I = I (z.cps.toList.map fun c => Va.str ⟨#[c]⟩) (fun _ => True) S := rfl
theorem seq_loc {k} : wSeq (.loc k) S I = ∃ xs, S[k]? = some (.lst xs) ∧ I xs (fun S' => S'[k]? = some (.lst xs)) S := rfl
theorem en_tup {xs} : wEn (.tup xs) S I = I xs (fun _ => True) S := rfl
theorem en_lst {xs} : wEn (.lst xs) S I = I xs (fun _ => True) S := rfl
theorem en_scr {ns} : wEn (.scr ns) S I = I (ns.map Va.int) (fun _ => True) S := rfl
theorem en_loc {k} : wEn (.loc k) S I = ∃ xs, S[k]? = some (.lst xs) ∧ I xs (fun S' => S'[k]? = some (.lst xs)) S := rfl
theorem lst_lst {xs} : wLst (.lst xs) S I = I xs (fun _ => True) S := rfl
theorem lst_scr {ns} : wLst (.scr ns) S I = I (ns.map Va.int) (fun _ => True) S := rfl
theorem lst_loc {k} : wLst (.loc k) S I = ∃ xs, S[k]? = some (.lst xs) ∧ I xs (fun S' => S'[k]? = some (.lst xs)) S := rfl
theorem exInt {a : Int} {P : Int → Prop} : (∃ b, Va.int a = Va.int b ∧ P b) = P a := by
  apply propext
  constructor
  · rintro ⟨v, e, h⟩; cases e; exact h
  · exact fun h => ⟨a, rfl, h⟩
theorem exLoc {a : Nat} {P : Nat → Prop} : (∃ b, Va.loc a = Va.loc b ∧ P b) = P a := by
  apply propext
  constructor
  · rintro ⟨v, e, h⟩; cases e; exact h
  · exact fun h => ⟨a, rfl, h⟩
theorem exLst {a : List Va} {P : List Va → Prop} : (∃ b, some (Ob.lst a) = some (Ob.lst b) ∧ P b) = P a := by
  apply propext
  constructor
  · rintro ⟨v, e, h⟩; cases e; exact h
  · exact fun h => ⟨a, rfl, h⟩
theorem exLst1 {a : List Va} : (∃ b, some (Ob.lst a) = some (Ob.lst b)) = True := by
  apply propext
  exact ⟨fun _ => trivial, fun _ => ⟨a, rfl⟩⟩
theorem exLV_lst {a : List Va} {P : List Va → Prop} : (∃ b, LV S (.lst a) b ∧ P b) = P a := by
  apply propext
  constructor
  · rintro ⟨v, e | ⟨k, e, _⟩, h⟩
    · cases e; exact h
    · cases e
  · exact fun h => ⟨a, .inl rfl, h⟩
theorem exLV_loc {k : Nat} {P : List Va → Prop} : (∃ b, LV S (.loc k) b ∧ P b) = ∃ b, S[k]? = some (.lst b) ∧ P b := by
  apply propext
  constructor
  · rintro ⟨v, e | ⟨k', e, h'⟩, h⟩
    · cases e
    · cases e; exact ⟨v, h', h⟩
  · exact fun ⟨v, h', h⟩ => ⟨v, .inr ⟨k, rfl, h'⟩, h⟩
theorem mOk_loc {m k} (h : ∀ v, mOk S m v = ∃ xs, LV S v xs) : mOk S m (.loc k) = ∃ b, S[k]? = some (.lst b) := by
  rw [h]
  apply propext
  exact ⟨fun ⟨v, q⟩ => by rcases q with e | ⟨k', e, h'⟩ <;> cases e; exact ⟨v, h'⟩, fun ⟨v, q⟩ => ⟨v, .inr ⟨k, rfl, q⟩⟩⟩
theorem mOk_app {k} : mOk S .append (.loc k) = ∃ b, S[k]? = some (.lst b) := mOk_loc (fun _ => rfl)
theorem mOk_pop {k} : mOk S .pop (.loc k) = ∃ b, S[k]? = some (.lst b) := mOk_loc (fun _ => rfl)
theorem mOk_ext {k} : mOk S .extend (.loc k) = ∃ b, S[k]? = some (.lst b) := mOk_loc (fun _ => rfl)
theorem mOk_ins {k} : mOk S .insert (.loc k) = ∃ b, S[k]? = some (.lst b) := mOk_loc (fun _ => rfl)
theorem mOk_ind {k} : mOk S .index (.loc k) = ∃ b, S[k]? = some (.lst b) := mOk_loc (fun _ => rfl)
theorem mOk_join {a} : mOk S .join (.str a) = True := by
  apply propext
  exact ⟨fun _ => trivial, fun _ => ⟨a, rfl⟩⟩
theorem mOk_indl {xs} : mOk S .index (.lst xs) = True := by
  apply propext
  exact ⟨fun _ => trivial, fun _ => ⟨xs, .inl rfl⟩⟩
theorem m_append {k y} : wMth .append (.loc k) [y] S P = ∃ xs, S[k]? = some (.lst xs) ∧ xs.length < 1000000 ∧ P .non (S.set k (.lst (xs ++ [y]))) := rfl
theorem m_pop {k} : wMth .pop (.loc k) [] S P = ∃ xs, S[k]? = some (.lst xs) ∧ ∃ y, xs[xs.length - 1]? = some y ∧ P y (S.set k (.lst xs.dropLast)) := rfl
theorem m_upper {a} : wMth .upper (.str a) [] S P = (a.length ≤ 5592405 ∧ P (.str (Txt.upper a)) S) := rfl
theorem m_partition {a b} : wMth .partition (.str a) [.str b] S P = ((b.length == 0) = false ∧ a.length ≤ sizeLine ∧ P (.tup [.str (Txt.partition a b).1, .str (Txt.partition a b).2.1, .str (Txt.partition a b).2.2]) S) := rfl
theorem m_split {a b} : wMth .split (.str a) [.str b] S P = ((b.length == 0) = false ∧ a.length + 2 ≤ sizeLine ∧ P (.loc S.length) (S ++ [.lst ((Txt.split a b).map Va.str)])) := rfl
theorem m_endswith {a b} : wMth .endswith (.str a) [.str b] S P = P (.bl (Txt.endswith a b)) S := rfl
theorem m_find {a b} : wMth .find (.str a) [.str b] S P = P (.int (Txt.find a b)) S := rfl
theorem mOk_str {m : Mf} {a : Str} (h : m = .upper ∨ m = .partition ∨ m = .split ∨ m = .endswith ∨ m = .find) : mOk S m (.str a) = True := by
  apply propext
  rcases h with rfl | rfl | rfl | rfl | rfl <;> exact ⟨fun _ => trivial, fun _ => ⟨a, rfl⟩⟩
theorem mOk_upper {a : Str} : mOk S .upper (.str a) = True := mOk_str (.inl rfl)
theorem mOk_partition {a : Str} : mOk S .partition (.str a) = True := mOk_str (.inr (.inl rfl))
theorem mOk_split {a : Str} : mOk S .split (.str a) = True := mOk_str (.inr (.inr (.inl rfl)))
theorem mOk_endswith {a : Str} : mOk S .endswith (.str a) = True := mOk_str (.inr (.inr (.inr (.inl rfl))))
theorem mOk_find {a : Str} : mOk S .find (.str a) = True := mOk_str (.inr (.inr (.inr (.inr rfl))))
theorem m_extend {k z} : wMth .extend (.loc k) [z] S P = ∃ xs, S[k]? = some (.lst xs) ∧ ∃ zs, LV S z zs ∧ xs.length + zs.length ≤ 1000000 ∧ P .non (S.set k (.lst (xs ++ zs))) := rfl
theorem m_insert {k i y} : wMth .insert (.loc k) [.int i, y] S P = ∃ xs, S[k]? = some (.lst xs) ∧ xs.length < 1000000 ∧ 0 ≤ i ∧ i < 2 ^ 63 ∧ P .non (S.set k (.lst (xs.take i.toNat ++ [y] ++ xs.drop i.toNat))) := rfl
theorem m_join {a z} : wMth .join (.str a) [z] S P = ∃ ys : List Str, (z = .tup (ys.map Va.str) ∨ LV S z (ys.map Va.str)) ∧ (ys.map PySem.Str.length).sum + ys.length * a.length ≤ 16777216 ∧ P (.str (Txt.join a ys)) S := rfl
theorem b_listL {xs} : wBlt .list [.lst xs] S P = P (.loc S.length) (S ++ [.lst xs]) := rfl
theorem b_listT {xs} : wBlt .list [.tup xs] S P = P (.loc S.length) (S ++ [.lst xs]) := rfl
theorem b_listS {ns} : wBlt .list [.scr ns] S P = P (.loc S.length) (S ++ [.lst (ns.map Va.int)]) := rfl
theorem b_listK {k} : wBlt .list [.loc k] S P = ∃ o, S[k]? = some o ∧ listO o S P := rfl
theorem b_tupL {xs} : wBlt .tuple [.lst xs] S P = P (.tup xs) S := rfl
theorem b_tupT {xs} : wBlt .tuple [.tup xs] S P = P (.tup xs) S := rfl
theorem b_tupK {k} : wBlt .tuple [.loc k] S P = ∃ xs, S[k]? = some (.lst xs) ∧ P (.tup xs) S := rfl
theorem b_max2 {i j} : wBlt .max2 [.int i, .int j] S P = P (.int (if j > i then j else i)) S := rfl
theorem b_min2 {i j} : wBlt .min2 [.int i, .int j] S P = P (.int (if j < i then j else i)) S := rfl
theorem b_ord {x} : wBlt .ord [.str x] S P = (x.length = 1 ∧ P (.int (x.cps.getD 0 0 : Nat)) S) := rfl
theorem b_str {i} : wBlt .str [.int i] S P = (i.natAbs.log2 < 1920 ∧ P (.str (toString i)) S) := rfl
theorem b_sum {v} : wBlt .sum [v] S P = ∃ ns : List Int, LV S v (ns.map Va.int) ∧ P (.int ns.sum) S := rfl
theorem b_maxT {v} : wBlt .maxT [v] S P = ∃ xs ds, LV S v xs ∧ DVs S xs ds ∧ PySem.W.AlikeAll ds ∧ PyData.depthAll ds ≤ 60 ∧ ds ≠ [] ∧ ∀ (y : PyData) (ys : List PyData) (i : Nat) (u : Va), ds = y :: ys → xs[i]? = some u → ds[i]? = some (PySem.W.maxD y ys) → P u S := rfl
theorem b_max1 {v} : wBlt .max1 [v] S P = ∃ ns : List Int, LV S v (ns.map Va.int) ∧ 0 < ns.length ∧ ∀ m, m ∈ ns → (∀ y, y ∈ ns → y ≤ m) → P (.int m) S := rfl
theorem sl_lst {xs lo hi} : wSlice (.lst xs) lo hi S P = P (.loc S.length) (S ++ [.lst (cutA xs lo hi)]) := rfl
theorem sl_loc {k lo hi} : wSlice (.loc k) lo hi S P = ∃ xs, S[k]? = some (.lst xs) ∧ P (.loc S.length) (S ++ [.lst (cutA xs lo hi)]) := rfl
theorem sl_scr {ns lo hi} : wSlice (.scr ns) lo hi S P = P (.loc S.length) (S ++ [.lst ((cutA ns lo hi).map Va.int)]) := rfl
theorem sl_tupE {xs lo hi} : wSlice (.tup xs) lo hi S P = P (.tup (cutA xs lo hi)) S := rfl
theorem sl_strE {z lo hi} : wSlice (.str z) lo hi S P = (z.length ≤ sizeLine ∧ P (.str (L2.cutS z lo hi)) S) := rfl
theorem cat_lst {xs y} : wBin .add (.lst xs) y S P = ∃ b, LV S (.lst xs) b ∧ ∃ ys, LV S y ys ∧ b.length + ys.length ≤ 1000000 ∧ P (.loc S.length) (S ++ [.lst (b ++ ys)]) := rfl
theorem cat_loc {k y} : wBin .add (.loc k) y S P = ∃ b, LV S (.loc k) b ∧ ∃ ys, LV S y ys ∧ b.length + ys.length ≤ 1000000 ∧ P (.loc S.length) (S ++ [.lst (b ++ ys)]) := rfl
theorem cat_tup {xs ys} : wBin .add (.tup xs) (.tup ys) S P = (xs.length + ys.length ≤ 1000000 ∧ P (.tup (xs ++ ys)) S) := rfl
theorem wLen_scr {ns} : wLen (.scr ns) S P = P (.int ns.length) S := rfl
theorem wLen_loc {k} : wLen (.loc k) S P = ∃ o, S[k]? = some o ∧ lenO o S P := rfl
theorem wLen_str {x} : wLen (.str x) S P = (x.length ≤ sizeLine ∧ P (.int x.length) S) := rfl
theorem wSub_scr {ns i} : wSub (.scr ns) (.int i) S P = ∃ n, L2.atI ns i = some n ∧ P (.int n) S := rfl
theorem wSub_loc {k y} : wSub (.loc k) y S P = ∃ o, S[k]? = some o ∧ subO o y S P := rfl
theorem wSub_str {z i} : wSub (.str z) (.int i) S P = ∃ c, z.length ≤ sizeLine ∧ L2.atI z.cps.toList i = some c ∧ P (.str ⟨#[c]⟩) S := rfl
theorem aug_add {n m : Int} : augI .add n m = some (n + m) := rfl
theorem aug_sub {n m : Int} : augI .sub n m = some (n - m) := rfl
theorem tru_lst {xs} : tru S (.lst xs) = some (!xs.isEmpty) := rfl
theorem tru_tup {xs} : tru S (.tup xs) = some (!xs.isEmpty) := rfl
theorem tru_non : tru S .non = some false := rfl
theorem tru_loc {k xs} (h : S[k]? = some (.lst xs)) : tru S (.loc k) = some (!xs.isEmpty) := by simp only [tru, h]
theorem ty_loc {k xs t} (h : S[k]? = some (.lst xs)) : tyIs S (.loc k) t = some (t == .list) := by simp only [tyIs, h]
theorem ty_scr_list {ns} : tyIs S (.scr ns) .list = some true := rfl
end
/-! ### places in the store -/
section
variable {S l : Sto} {i : Nat} {o : Ob}
theorem sg_p0 : (S ++ l)[S.length]? = l[0]? := by
  rw [List.getElem?_append_right (Nat.le_refl _), Nat.sub_self]
theorem sg_pl : (S ++ l)[S.length + i]? = l[i]? := by
  rw [List.getElem?_append_right (Nat.le_add_right _ _), Nat.add_sub_cancel_left]
theorem ss_p0 : (S ++ l).set S.length o = S ++ l.set 0 o := by
  rw [List.set_append_right _ _ (Nat.le_refl _), Nat.sub_self]
theorem ss_pl : (S ++ l).set (S.length + i) o = S ++ l.set i o := by
  rw [List.set_append_right _ _ (Nat.le_add_right _ _), Nat.add_sub_cancel_left]
end
theorem ob_set0 {o u : Ob} {r : Sto} : List.set (o :: r) 0 u = u :: r := rfl
theorem ob_setS {o u : Ob} {r : Sto} {i : Nat} : List.set (o :: r) (i + 1) u = o :: List.set r i u := rfl
theorem ob_set1 {o o1 u : Ob} {r : Sto} : List.set (o :: o1 :: r) 1 u = o :: u :: r := rfl
theorem ob_set2 {o o1 o2 u : Ob} {r : Sto} : List.set (o :: o1 :: o2 :: r) 2 u = o :: o1 :: u :: r := rfl
theorem ob_set3 {o o1 o2 o3 u : Ob} {r : Sto} : List.set (o :: o1 :: o2 :: o3 :: r) 3 u = o :: o1 :: o2 :: u :: r := rfl
theorem ob_g0 {o : Ob} {r : Sto} : (o :: r)[0]? = some o := rfl
theorem ob_g1 {o o1 : Ob} {r : Sto} : (o :: o1 :: r)[1]? = some o1 := rfl
theorem ob_g2 {o o1 o2 : Ob} {r : Sto} : (o :: o1 :: o2 :: r)[2]? = some o2 := rfl
theorem ob_g3 {o o1 o2 o3 : Ob} {r : Sto} : (o :: o1 :: o2 :: o3 :: r)[3]? = some o3 := rfl
/-! ### small places -/
theorem at_0 {x0 : Va} {xs : List Va} : L2.atI (x0 :: xs) 0 = some x0 := L2.atI_nat (j := 0) rfl
theorem at_1 {x0 x1 : Va} {xs : List Va} : L2.atI (x0 :: x1 :: xs) 1 = some x1 := L2.atI_nat (j := 1) rfl
theorem at_2 {x0 x1 x2 : Va} {xs : List Va} : L2.atI (x0 :: x1 :: x2 :: xs) 2 = some x2 := L2.atI_nat (j := 2) rfl
theorem at_3 {x0 x1 x2 x3 : Va} {xs : List Va} : L2.atI (x0 :: x1 :: x2 :: x3 :: xs) 3 = some x3 := L2.atI_nat (j := 3) rfl
theorem at_4 {x0 x1 x2 x3 x4 : Va} {xs : List Va} : L2.atI (x0 :: x1 :: x2 :: x3 :: x4 :: xs) 4 = some x4 := L2.atI_nat (j := 4) rfl
theorem at_5 {x0 x1 x2 x3 x4 x5 : Va} {xs : List Va} : L2.atI (x0 :: x1 :: x2 :: x3 :: x4 :: x5 :: xs) 5 = some x5 := L2.atI_nat (j := 5) rfl
theorem ix_1_0 : L2.ixN 1 0 = some 0 := rfl
theorem ix_2_0 : L2.ixN 2 0 = some 0 := rfl
theorem ix_2_1 : L2.ixN 2 1 = some 1 := rfl
theorem ix_3_0 : L2.ixN 3 0 = some 0 := rfl
theorem ix_3_1 : L2.ixN 3 1 = some 1 := rfl
theorem ix_3_2 : L2.ixN 3 2 = some 2 := rfl
theorem ix_4_0 : L2.ixN 4 0 = some 0 := rfl
theorem ix_4_1 : L2.ixN 4 1 = some 1 := rfl
theorem ix_4_2 : L2.ixN 4 2 = some 2 := rfl
theorem ix_4_3 : L2.ixN 4 3 = some 3 := rfl
theorem va_s0 {x v : Va} {r : List Va} : List.set (x :: r) 0 v = v :: r := rfl
theorem va_s1 {x x1 v : Va} {r : List Va} : List.set (x :: x1 :: r) 1 v = x :: v :: r := rfl
theorem va_s2 {x x1 x2 v : Va} {r : List Va} : List.set (x :: x1 :: x2 :: r) 2 v = x :: x1 :: v :: r := rfl
theorem va_s3 {x x1 x2 x3 v : Va} {r : List Va} : List.set (x :: x1 :: x2 :: x3 :: r) 3 v = x :: x1 :: x2 :: v :: r := rfl
/-! ### without places -/
mutual
def pl : Va → Bool
  | .tup xs => pls xs
  | .lst xs => pls xs
  | .dct xs => plk xs
  | .loc _ => false
  | .non => true
  | .bl _ => true
  | .int _ => true
  | .str _ => true
  | .scr _ => true
  | .exc _ => false
  | .fnv _ _ => false
def pls : List Va → Bool
  | [] => true
  | x :: xs => pl x && pls xs
def plk : List (Key × Va) → Bool
  | [] => true
  | (_, x) :: xs => pl x && plk xs
end
section
variable {S : Sto} {n : Nat}
mutual
theorem fz_pl : ∀ {v : Va}, pl v = true → Fz S n v v
  | .tup xs, h => ⟨xs, rfl, fzs_pl h⟩
  | .lst xs, h => ⟨xs, .inl rfl, fzs_pl h⟩
  | .dct xs, h => ⟨xs, .inl rfl, fzk_pl h⟩
  | .loc _, h => by cases h
  | .non, _ => rfl
  | .bl _, _ => rfl
  | .int _, _ => rfl
  | .str _, _ => rfl
  | .scr _, _ => rfl
  | .exc _, h => by cases h
  | .fnv _ _, h => by cases h
theorem fzs_pl : ∀ {v : List Va}, pls v = true → Fzs S n v v
  | [], _ => rfl
  | x :: xs, h => by
    obtain ⟨h1, h2⟩ := Bool.and_eq_true_iff.mp h
    exact ⟨x, xs, rfl, fz_pl h1, fzs_pl h2⟩
theorem fzk_pl : ∀ {v : List (Key × Va)}, plk v = true → Fzk S n v v
  | [], _ => rfl
  | (k, x) :: xs, h => by
    obtain ⟨h1, h2⟩ := Bool.and_eq_true_iff.mp h
    exact ⟨x, xs, rfl, fz_pl h1, fzk_pl h2⟩
end
end
theorem pls_iff : ∀ {xs : List Va}, pls xs = true ↔ ∀ x ∈ xs, pl x = true
  | [] => by simp [pls]
  | x :: xs => by simp [pls, pls_iff (xs := xs)]
/-- a value without places, the store as at the start -/
theorem fin_val {S : Sto} {N : Sto} {P : PV} {v : Va} (hv : pl v = true) (h : P v S) : fin S P v (S ++ N) := fin_pure (fz_pl hv) h
/-- a list made here -/
theorem fin_lst {S : Sto} {N : Sto} {P : PV} {i : Nat} {xs : List Va} (hg : N[i]? = some (.lst xs)) (hv : pls xs = true) (h : P (.lst xs) S) : fin S P (.loc (S.length + i)) (S ++ N) :=
  fin_pure (v' := .lst xs) ⟨xs, .inr ⟨_, rfl, Nat.le_add_right _ _, by rw [sg_pl]; exact hg⟩, fzs_pl hv⟩ h
theorem fin_lst0 {S : Sto} {N : Sto} {P : PV} {xs : List Va} (hg : N[0]? = some (.lst xs)) (hv : pls xs = true) (h : P (.lst xs) S) : fin S P (.loc S.length) (S ++ N) :=
  fin_lst (i := 0) hg hv h
theorem finX_cut {S : Sto} {N : Sto} {E : PX} {x : Str} (h : E x S) : finX S E x (S ++ N) :=
  ⟨S, .inr ⟨by simp, by simp, fun i o hi e => .inl (by rw [List.getElem?_append_left hi] at e; exact e)⟩, h⟩
/-! ### dicts, objects -/
section
variable {C : Orc} {Γ : Env} {S : Sto} {P : PV} {E : PX} {D : AEnds} {T : Tab} {k : Nat}
theorem orc_run : (orc T k).run = call T k := rfl
theorem orc_glob : (orc T k).glob = T.glob := rfl
theorem orc_isa : (orc T k).isa = T.isa := rfl
theorem orc_gdct : (orc T k).gdct = T.gdct := rfl
theorem orc_xk : (orc T k).xk = T.xkf := rfl
theorem W_isE {a x} : W C (.isE a x) Γ S P E = W C a Γ S (fun v S1 => ∃ ad, v = .exc ad ∧ ∃ c, C.cur = some (ad, c) ∧ ∃ b, C.xk c x = some b ∧ P (.bl b) S1) E := rfl
theorem W_isEt {a xs} : W C (.isEt a xs) Γ S P E = W C a Γ S (fun v S1 => ∃ ad, v = .exc ad ∧ ∃ c, C.cur = some (ad, c) ∧ ∃ b, xkAny C c xs = some b ∧ P (.bl b) S1) E := rfl
theorem WS_try {b x o su} : WS C (.try_ b x o su) D Γ S = WSs C b { D with ex := fun c Γ' S' => ∃ kk, C.xk c x = some kk ∧ if kk = true then ∀ a, WSs { C with cur := some (a, c) } su (offD o D) (onE o a Γ') S' else D.ex c Γ' S' } Γ S := rfl
theorem W_isc {a x} : W C (.isc a x) Γ S P E = W C a Γ S (fun v S1 => ∃ k, v = .loc k ∧ ∃ ob, S1[k]? = some ob ∧ ∃ b, clsIs C x ob = some b ∧ P (.bl b) S1) E := rfl
theorem b_intB {b} : wBlt .int [.bl b] S P = P (.int (if b = true then 1 else 0)) S := rfl
theorem orc_init : (orc T k).init = T.init := rfl
theorem W_gget {x k d} : W C (.gget x k d) Γ S P E = (∃ l, C.gdct x = some l ∧ W C k Γ S (fun y S1 => W C d Γ S1 (fun z S2 => ∃ s, y = .str s ∧ ∃ o, l.lookup s = some o ∧ P (o.getD z) S2) E) E) := rfl
theorem W_get2 {o k d} : W C (.get2 o k d) Γ S P E = W C o Γ S (fun x S1 => isD S1 x ∧ W C k Γ S1 (fun y S2 => W C d Γ S2 (fun z S3 => ∃ kvs, LD S3 x kvs ∧ ∃ kk, keyV y = some kk ∧ P ((dget kvs kk).getD z) S3) E) E) E := rfl
theorem W_glob {x} : W C (.glob x) Γ S P E = ∃ v, C.glob x = some v ∧ P v S := rfl
theorem W_fld {o f} : W C (.fld o f) Γ S P E = W C o Γ S (fun x S1 => ∃ k, x = .loc k ∧ ∃ ob, S1[k]? = some ob ∧ ∃ v, fldO C f ob = some v ∧ P v S1) E := rfl
theorem W_mcall {o m es} : W C (.mcall o m es) Γ S P E = W C o Γ S (fun x S1 => ∃ k, x = .loc k ∧ ∃ ob, S1[k]? = some ob ∧ ∃ key, mkey C m ob = some key ∧ WL C es Γ S1 (fun vs S2 => C.run key (x :: vs) S2 P E) E) E := rfl
theorem W_make {c es} : W C (.make c es) Γ S P E = ∃ key, C.init c = some (some key) ∧ WL C es Γ S (fun vs S1 => C.run key (.loc S1.length :: vs) (S1 ++ [.ins c []]) (fun v S2 => v = .non ∧ P (.loc S1.length) S2) E) E := rfl
theorem W_make0 {c} : W C (.make0 c) Γ S P E = (C.init c = some none ∧ P (.loc S.length) (S ++ [.ins c []])) := rfl
theorem W_dsp {es} : W C (.dsp es) Γ S P E = WL C es Γ (S ++ [.dct []]) (fun vs S1 => ∃ kvs, pairsV vs = some kvs ∧ kvs.length ≤ 15 ∧ S1[S.length]? = some (.dct []) ∧ P (.loc S.length) (S1.set S.length (.dct (mergeA [] kvs)))) E := rfl
theorem Ss_setFld {o f e ss} : WSs C (.cons (.setFld o f e) ss) D Γ S = W C e Γ S (fun v S1 => W C o Γ S1 (fun x S2 => ∃ k, x = .loc k ∧ ∃ ob, S2[k]? = some ob ∧ ∃ ob', putFO C f v ob = some ob' ∧ WSs C ss D Γ (S2.set k ob')) (fun x S1 => D.ex x Γ S1)) (fun x S1 => D.ex x Γ S1) := rfl
theorem subO_l {xs i} : subO (.lst xs) (.int i) S P = ∃ v, L2.atI xs i = some v ∧ P v S := rfl
theorem subO_d {kvs y} : subO (.dct kvs) y S P = ∃ kk, keyV y = some kk ∧ ∃ v, dget kvs kk = some v ∧ P v S := by cases y <;> rfl
theorem lenO_l {xs} : lenO (.lst xs) S P = P (.int xs.length) S := rfl
theorem lenO_d {xs} : lenO (.dct xs) S P = P (.int xs.length) S := rfl
theorem listO_l {xs} : listO (.lst xs) S P = P (.loc S.length) (S ++ [.lst xs]) := rfl
theorem listO_d {kvs} : listO (.dct kvs) S P = P (.loc S.length) (S ++ [.lst (kvs.map fun kv => keyA kv.1)]) := rfl
theorem putO_l {xs : List Va} {j : Int} {v : Va} : putO (.lst xs) (.int j) v = (L2.ixN xs.length j).map fun n => .lst (xs.set n v) := rfl
theorem putO_d {kvs : List (Key × Va)} {y v : Va} {kk : Key} (h : keyV y = some kk) (hl : kvs.length < 1000000) : putO (.dct kvs) y v = some (.dct (dput kvs kk v)) := by
  have e : putO (.dct kvs) y v = match keyV y with
    | some kk => if kvs.length < 1000000 then some (.dct (dput kvs kk v)) else none
    | none => none := by cases y <;> rfl
  rw [e, h]
  simp only [if_pos hl]
theorem wIn_str {x y : Str} : wCmp .isin (.str x) (.str y) S P = (x.length = 1 ∧ P (.bl (decide (x.cps.getD 0 0 ∈ y.cps.toList))) S) := rfl
theorem wIsb {a b : Bool} : wCmp .isb (.bl a) (.bl b) S P = P (.bl (decide (a = b))) S := rfl
theorem wNisb {a b : Bool} : wCmp .nisb (.bl a) (.bl b) S P = P (.bl (!decide (a = b))) S := rfl
theorem wNotin_str {x y : Str} : wCmp .notin (.str x) (.str y) S P = (x.length = 1 ∧ P (.bl (!decide (x.cps.getD 0 0 ∈ y.cps.toList))) S) := rfl
theorem fin_dct0 {S : Sto} {N : Sto} {P : PV} {kvs : List (Key × Va)} (hg : N[0]? = some (.dct kvs)) (hv : plk kvs = true) (h : P (.dct kvs) S) : fin S P (.loc S.length) (S ++ N) :=
  fin_pure (v' := .dct kvs) ⟨kvs, .inr ⟨_, rfl, Nat.le_refl _, by rw [sg_p0]; exact hg⟩, fzk_pl hv⟩ h
theorem keyV_int {i : Int} : keyV (.int i) = some (.inl i) := rfl
theorem keyV_str {x : Str} : keyV (.str x) = some (.inr x) := rfl
theorem mapSome {α γ : Type} {f : α → γ} {a : α} : (some a).map f = some (f a) := rfl
end
/-! ### walks by a word -/
section
variable {C : Orc}
theorem frL_ix {bind : Va → Env → Sto → Option Env} {b : PE_ → Env → Sto → Prop} {G : Sto → Prop} {nx : PE_} (hb : ∀ Γ S (N N' : PE_), (∀ Γ S, N Γ S → N' Γ S) → b N Γ S → b N' Γ S) {xs : List Va} (I : Nat → Env → Sto → Prop)
    (hs : ∀ i x Γ S, xs[i]? = some x → I i Γ S → ∃ Γ1, bind x Γ S = some Γ1 ∧ b (fun Γ' S' => G S' ∧ I (i + 1) Γ' S') Γ1 S) (hd : ∀ Γ S, I xs.length Γ S → nx Γ S) : ∀ {Γ S}, I 0 Γ S → frL bind b G nx xs Γ S := by
  have key : ∀ (m i : Nat) (Γ : Env) (S : Sto), i + m = xs.length → I i Γ S → frL bind b G nx (xs.drop i) Γ S := by
    intro m
    induction m with
    | zero =>
      intro i Γ S hi h
      rw [List.drop_eq_nil_of_le (by omega)]
      have e : i = xs.length := by omega
      subst e
      exact hd Γ S h
    | succ m ih =>
      intro i Γ S hi h
      have hlt : i < xs.length := by omega
      rw [List.drop_eq_getElem_cons hlt]
      obtain ⟨Γ1, h1, h2⟩ := hs i xs[i] Γ S (by simp [hlt]) h
      exact ⟨Γ1, h1, hb _ _ _ _ (fun Γ' S' ⟨g, z⟩ => ⟨g, ih (i + 1) Γ' S' (by omega) z⟩) h2⟩
  intro Γ S h
  exact key xs.length 0 Γ S (by omega) h
/-- a for by a word of the turn's number -/
theorem for_ix (hC : OrcMono C) {tg : Tg} {b : Sms} {D : AEnds} {G : Sto → Prop} {xs : List Va} {Γ : Env} {S : Sto} (I : Nat → Env → Sto → Prop) (h0 : I 0 Γ S)
    (hs : ∀ i x Γ S, xs[i]? = some x → I i Γ S → ∃ Γ1, bindT S tg x Γ = some Γ1 ∧ WSs C b { D with nx := fun Γ' S' => G S' ∧ I (i + 1) Γ' S', ct := fun Γ' S' => G S' ∧ I (i + 1) Γ' S', bk := D.nx } Γ1 S) (hd : ∀ Γ S, I xs.length Γ S → D.nx Γ S) :
    forB C tg b D G xs Γ S :=
  frL_ix (nx := D.nx) (fun Γ S N N' hN q => WSs_mono hC b { D with nx := N, ct := N, bk := D.nx } { D with nx := N', ct := N', bk := D.nx } Γ S ⟨hN, fun _ _ z => z, fun _ _ z => z, hN, fun _ _ _ z => z⟩ q) I hs hd h0
/-- a comprehension whose parts leave the store as it is -/
theorem cpL_map (hC : OrcMono C) {own : List Nat} {elt : Ex} {tg : Tg} {cond : Tes0} {G : Sto → Prop} {Γ : Env} {S1 : Sto} {P : PV} {xs : List Va} (f : Va → Option Va) (hn : xs.length ≤ 1000000) (hG : ∀ acc, G (S1 ++ [.lst acc]))
    (h : ∀ x ∈ xs, ∀ acc, ∃ Γ1, bindT (S1 ++ [.lst acc]) tg x (wipeA Γ own) = some Γ1 ∧ WT0 C cond Γ1 (S1 ++ [.lst acc]) fun b S2 => S2 = S1 ++ [.lst acc] ∧ match f x with
      | some v => b = true ∧ W C elt Γ1 (S1 ++ [.lst acc]) (fun v' S3 => v' = v ∧ S3 = S1 ++ [.lst acc]) (fun _ _ => False)
      | none => b = false) (hP : P (.loc S1.length) (S1 ++ [.lst (xs.filterMap f)])) :
    cpB C own elt tg cond G S1.length P xs Γ (S1 ++ [.lst []]) := by
  have key : ∀ (ys : List Va) (acc : List Va), (∀ x ∈ ys, x ∈ xs) → acc.length + ys.length ≤ 1000000 → P (.loc S1.length) (S1 ++ [.lst (acc ++ ys.filterMap f)]) →
      cpL (fun x S => bindT S tg x (wipeA Γ own)) (fun Γ S Q => WT0 C cond Γ S Q) (fun Γ S Q => W C elt Γ S Q (fun _ _ => False)) G S1.length P ys (S1 ++ [.lst acc]) := by
    intro ys
    induction ys with
    | nil =>
      intro acc _ _ hp
      rw [List.filterMap_nil, List.append_nil] at hp
      exact hp
    | cons y ys ih =>
      intro acc hin hl hp
      rw [List.length_cons] at hl
      obtain ⟨Γ1, h1, h2⟩ := h y (hin y List.mem_cons_self) acc
      refine ⟨Γ1, h1, WT0_mono hC cond _ _ _ _ (fun b S2 q => ?_) h2⟩
      obtain ⟨e, q⟩ := q
      rw [e]
      cases hf : f y with
      | some v =>
        rw [hf] at q
        obtain ⟨hb, q⟩ := q
        rw [hb, if_pos rfl]
        refine W_mono hC elt _ _ _ _ _ _ (fun v' S3 ⟨e1, e2⟩ => ?_) (fun _ _ z => z) q
        rw [e1, e2]
        have e3 : (S1 ++ [Ob.lst acc]).set S1.length (.lst (acc ++ [v])) = S1 ++ [.lst (acc ++ [v])] := by rw [ss_p0]; rfl
        refine ⟨acc, by rw [sg_p0]; rfl, by omega, by rw [e3]; exact hG _, ?_⟩
        rw [e3]
        refine ih _ (fun x hx => hin x (List.mem_cons_of_mem _ hx)) (by simp; omega) ?_
        rw [List.filterMap_cons_some hf] at hp
        simpa using hp
      | none =>
        rw [hf] at q
        rw [q, if_neg (by decide)]
        refine ⟨hG _, ih _ (fun x hx => hin x (List.mem_cons_of_mem _ hx)) (by omega) ?_⟩
        rw [List.filterMap_cons_none hf] at hp
        exact hp
  exact key xs [] (fun _ z => z) (by simpa using hn) (by simpa using hP)
end
theorem rangeV_get {lo : Int} {n i : Nat} {x : Va} (h : (rangeV lo n)[i]? = some x) : i < n ∧ x = .int (lo + i) := by
  have hi : i < n := by
    have := L2.atI_nat (j := i) h
    have := lt_of_get h
    simpa [rangeV] using this
  unfold rangeV at h
  rw [List.getElem?_map, List.getElem?_range hi] at h
  exact ⟨hi, by cases h; rfl⟩
theorem rangeDV_get {lo : Int} {n i : Nat} {x : Va} (h : (rangeDV lo n)[i]? = some x) : i < n ∧ x = .int (lo - i) := by
  have hi : i < n := by
    have := lt_of_get h
    simpa [rangeDV] using this
  unfold rangeDV at h
  rw [List.getElem?_map, List.getElem?_range hi] at h
  exact ⟨hi, (Option.some.inj h).symm⟩
theorem rangeDV_len {lo : Int} {n : Nat} : (rangeDV lo n).length = n := by simp [rangeDV]
theorem rangeV_len {lo : Int} {n : Nat} : (rangeV lo n).length = n := by simp [rangeV]
theorem unlk {S : Sto} {k : Nat} {o u : Ob} (h : S[k]? = some o) : (S.set k u).set k o = S := by
  rw [List.set_set]
  apply List.ext_getElem?
  intro i
  by_cases e : k = i
  · subst e; rw [List.getElem?_set_self (lt_of_get h), h]
  · rw [List.getElem?_set_ne e]
/-- a dict walked, locked meanwhile -/
theorem for_keys {C : Orc} {tg : Tg} {b : Sms} {D : AEnds} {Γ : Env} {S : Sto} {i k : Nat} {kvs : List (Key × Va)} (hv : gt Γ i = some (.loc k)) (hk : S[k]? = some (.dct kvs)) (h : forB C tg b (lckD k kvs D) (fun _ => True) (kvs.map fun kv => keyA kv.1) Γ (S.set k (.lok kvs))) :
    WS C (.lck (.for_ tg (.keys (.var i)) b)) D Γ S := ⟨k, kvs, hk, _, hv, k, rfl, kvs, List.getElem?_set_self (lt_of_get hk), trivial, h⟩
theorem setC_keys {C : Orc} {own : List Nat} {elt : Ex} {tg : Tg} {cond : Tes0} {D : AEnds} {Γ : Env} {S : Sto} {i j k : Nat} {kvs : List (Key × Va)} (hv : gt Γ i = some (.loc k)) (hk : S[k]? = some (.dct kvs)) (h : cpB C own elt tg cond (fun _ => True) (S.set k (.lok kvs)).length (fun v S2 => (lckD k kvs D).nx (Γ.set j (some v)) S2) (kvs.map fun kv => keyA kv.1) Γ (S.set k (.lok kvs) ++ [.lst []])) :
    WS C (.lck (.setC j own elt tg (.keys (.var i)) cond)) D Γ S := ⟨k, kvs, hk, _, hv, k, rfl, kvs, List.getElem?_set_self (lt_of_get hk), trivial, h⟩
theorem comp_keys {C : Orc} {own : List Nat} {elt : Ex} {tg : Tg} {cond : Tes0} {P : PV} {E : PX} {Γ : Env} {S : Sto} {i k : Nat} {kvs : List (Key × Va)} (hv : gt Γ i = some (.loc k)) (hk : S[k]? = some (.dct kvs)) (h : cpB C own elt tg cond (fun _ => True) (S.set k (.lok kvs)).length (fun v S2 => S2[k]? = some (.lok kvs) ∧ P v (S2.set k (.dct kvs))) (kvs.map fun kv => keyA kv.1) Γ (S.set k (.lok kvs) ++ [.lst []])) :
    W C (.lck (.comp own elt tg (.keys (.var i)) cond)) Γ S P E := ⟨k, kvs, hk, _, hv, k, rfl, kvs, List.getElem?_set_self (lt_of_get hk), trivial, h⟩
theorem for_items {C : Orc} {tg : Tg} {b : Sms} {D : AEnds} {Γ : Env} {S : Sto} {i k : Nat} {kvs : List (Key × Va)} (hv : gt Γ i = some (.loc k)) (hk : S[k]? = some (.dct kvs)) (h : forB C tg b (lckD k kvs D) (fun _ => True) (kvs.map fun kv => .tup [keyA kv.1, kv.2]) Γ (S.set k (.lok kvs))) :
    WS C (.lck (.for_ tg (.items (.var i)) b)) D Γ S := ⟨k, kvs, hk, _, hv, k, rfl, kvs, List.getElem?_set_self (lt_of_get hk), trivial, h⟩
section
variable {C : Orc} {Γ : Env} {S : Sto} {P : PV} {E : PX} {D : AEnds} {x y : Va}
theorem wEqd : wCmp .eqd x y S P = ∃ b, QE S 50 x y b ∧ P (.bl b) S := rfl
theorem wNed : wCmp .ned x y S P = ∃ b, NQ S x y b ∧ P (.bl (!b)) S := rfl
theorem W_fmt {a} : W C (.fmt a) Γ S P E = W C a Γ S (fun x S1 => wFmt x S1 P) E := rfl
theorem W_js {es} : W C (.js es) Γ S P E = WJ C es Str.empty Γ S P E := rfl
theorem WJ_nil {acc} : WJ C .nil acc Γ S P E = P (.str acc) S := rfl
theorem WJ_cons {e es acc} : WJ C (.cons e es) acc Γ S P E = W C e Γ S (fun v S1 => ∃ y : Str, v = .str y ∧ (acc ++ y).length ≤ sizeLine ∧ WJ C es (acc ++ y) Γ S1 P E) E := rfl
theorem wFmt_str {y : Str} : wFmt (.str y) S P = (y.length ≤ sizeLine ∧ P (.str y) S) := rfl
theorem wFmt_int {i : Int} : wFmt (.int i) S P = (i.natAbs.log2 < 1920 ∧ P (.str (toString i)) S) := rfl
theorem WS_par {i j a b} : WS C (.par i j a b) D Γ S = W C a Γ S (fun v S1 => W C b Γ S1 (fun w S2 => D.nx ((Γ.set i (some v)).set j (some w)) S2) (fun x S2 => D.ex x Γ S2)) (fun x S1 => D.ex x Γ S1) := rfl
theorem Ss_par {i j a b ss} : WSs C (.cons (.par i j a b) ss) D Γ S = W C a Γ S (fun v S1 => W C b Γ S1 (fun w S2 => WSs C ss D ((Γ.set i (some v)).set j (some w)) S2) (fun x S2 => D.ex x Γ S2)) (fun x S1 => D.ex x Γ S1) := rfl
theorem W_calld {f es} : W C (.calld f es) Γ S P E = ((∃ y, C.dfl f = some y) ∧ WL C es Γ S (fun vs S1 => C.run f (vs ++ [.non]) S1 P E) E) := rfl
theorem W_callk {f es x e} : W C (.callk f es x e) Γ S P E = (C.dfl f = some x ∧ WL C es Γ S (fun vs S1 => W C e Γ S1 (fun v S2 => C.run f (vs ++ [v]) S2 P E) E) E) := rfl
theorem W_callm {f es m as} : W C (.callm f es m as) Γ S P E = ∃ t, C.mkf m = some t ∧ WL C es Γ S (fun vs S1 => WL C as Γ S1 (fun us S2 => us.length = t.2.2.2 ∧ hasTab S2 t.2.1 ∧ ∃ ws, capsA (us.map some) t.2.2.1 = some ws ∧ ∀ z : Clo, z.id = t.1 → C.runC z f (vs ++ [.fnv z ws]) S2 P E) E) E := rfl
theorem Ss_defret {i o m es id q js} : WSs C (.defret i o m es id q js) D Γ S = (hasTab S q ∧ ∃ ws, capsA (Γ.set i none) js = some ws ∧ W C o (Γ.set i none) S (fun x S1 => ∃ k, x = .loc k ∧ ∃ ob, S1[k]? = some ob ∧ ∃ key, mkey C m ob = some key ∧ WL C es (Γ.set i none) S1 (fun vs S2 => ∀ z : Clo, z.id = id → C.runC z key (x :: vs ++ [.fnv z ws]) S2 D.rt (fun x S1 => D.ex x (Γ.set i none) S1)) (fun x S1 => D.ex x (Γ.set i none) S1)) (fun x S1 => D.ex x (Γ.set i none) S1)) := rfl
end
end AM
end

section
set_option linter.all false
set_option maxRecDepth 100000
set_option maxHeartbeats 4000000
/-! AM, tenth part: data held against data; lists wherever they stand. -/
namespace AM
open PySem L2
mutual
/-- plain data -/
def dat : Va → Bool
  | .non => true
  | .bl _ => true
  | .int _ => true
  | .str x => PyData.strOk x
  | .tup xs => dats xs
  | .lst xs => dats xs
  | .dct _ => false
  | .loc _ => false
  | .scr _ => false
  | .exc _ => false
  | .fnv _ _ => false
def dats : List Va → Bool
  | [] => true
  | x :: xs => dat x && dats xs
end
mutual
def pd : Va → PyData
  | .non => .none
  | .bl b => .bool b
  | .int i => .int i
  | .str x => .str x
  | .tup xs => .tuple (pds xs)
  | .lst xs => .list (pds xs)
  | .dct _ => .none
  | .loc _ => .none
  | .scr _ => .none
  | .exc _ => .none
  | .fnv _ _ => .none
def pds : List Va → List PyData
  | [] => []
  | x :: xs => pd x :: pds xs
end
mutual
def dep : Va → Nat
  | .tup xs => deps xs + 1
  | .lst xs => deps xs + 1
  | .non => 0
  | .bl _ => 0
  | .int _ => 0
  | .str _ => 0
  | .dct _ => 0
  | .loc _ => 0
  | .scr _ => 0
  | .exc _ => 0
  | .fnv _ _ => 0
def deps : List Va → Nat
  | [] => 0
  | x :: xs => max (dep x) (deps xs)
end
section
variable {S : Sto}
mutual
theorem dv_pd : ∀ {v : Va}, dat v = true → DV S v (pd v)
  | .non, _ => .non
  | .bl b, _ => .bl b
  | .int i, _ => .int i
  | .str x, _ => .str x
  | .tup xs, h => .tup (dvs_pd h)
  | .lst xs, h => .lst (dvs_pd h)
  | .dct _, h => by cases h
  | .loc _, h => by cases h
  | .scr _, h => by cases h
  | .exc _, h => by cases h
  | .fnv _ _, h => by cases h
theorem dvs_pd : ∀ {v : List Va}, dats v = true → DVs S v (pds v)
  | [], _ => .nil
  | x :: xs, h => .cons (dv_pd (Bool.and_eq_true_iff.mp h).1) (dvs_pd (Bool.and_eq_true_iff.mp h).2)
end
end
mutual
theorem pd_lay : ∀ {v : Va}, dat v = true → PyData.canLay0 (pd v) = true ∧ (pd v).depth = dep v
  | .non, _ => by simp [pd, dep, PyData.canLay0, PyData.depth]
  | .bl b, _ => by simp [pd, dep, PyData.canLay0, PyData.depth]
  | .int i, _ => by simp [pd, dep, PyData.canLay0, PyData.depth]
  | .str x, h => by simp [pd, dep, PyData.canLay0, PyData.depth]; exact h
  | .tup xs, h => by
    obtain ⟨h1, h2⟩ := pds_lay (v := xs) h
    simp [pd, dep, PyData.canLay0, PyData.depth, h1, h2]
  | .lst xs, h => by
    obtain ⟨h1, h2⟩ := pds_lay (v := xs) h
    simp [pd, dep, PyData.canLay0, PyData.depth, h1, h2]
  | .dct _, h => by cases h
  | .loc _, h => by cases h
  | .scr _, h => by cases h
  | .exc _, h => by cases h
  | .fnv _ _, h => by cases h
theorem pds_lay : ∀ {v : List Va}, dats v = true → PyData.canLayAll0 (pds v) = true ∧ PyData.depthAll (pds v) = deps v
  | [], _ => by simp [pds, deps, PyData.canLayAll0, PyData.depthAll]
  | x :: xs, h => by
    obtain ⟨h1, h2⟩ := pd_lay (v := x) (Bool.and_eq_true_iff.mp h).1
    obtain ⟨h3, h4⟩ := pds_lay (v := xs) (Bool.and_eq_true_iff.mp h).2
    simp [pds, deps, PyData.canLayAll0, PyData.depthAll, h1, h2, h3, h4]
end
theorem pd_shaped {v : Va} (h : dat v = true) (h2 : dep v ≤ 64) : SeqAt.shaped (pd v) = true := by
  obtain ⟨h3, h4⟩ := pd_lay h
  unfold SeqAt.shaped
  rw [h3, h4, decide_eq_true h2]; rfl
mutual
theorem eqv_self : ∀ {v : Va}, dat v = true → PyData.eqv (pd v) (pd v) = true
  | .non, _ => by simp [pd, PyData.eqv]
  | .bl b, _ => by simp [pd, PyData.eqv]
  | .int i, _ => by simp [pd, PyData.eqv]
  | .str x, _ => by simp [pd, PyData.eqv]
  | .tup xs, h => by simp [pd, PyData.eqv, eqvs_self (v := xs) h]
  | .lst xs, h => by simp [pd, PyData.eqv, eqvs_self (v := xs) h]
  | .dct _, h => by cases h
  | .loc _, h => by cases h
  | .scr _, h => by cases h
  | .exc _, h => by cases h
  | .fnv _ _, h => by cases h
theorem eqvs_self : ∀ {v : List Va}, dats v = true → PyData.eqvAll (pds v) (pds v) = true
  | [], _ => by simp [pds, PyData.eqvAll]
  | x :: xs, h => by
    simp [pds, PyData.eqvAll, eqv_self (v := x) (Bool.and_eq_true_iff.mp h).1, eqvs_self (v := xs) (Bool.and_eq_true_iff.mp h).2]
end
theorem dats_iff : ∀ {xs : List Va}, dats xs = true ↔ ∀ x ∈ xs, dat x = true
  | [] => by simp [dats]
  | x :: xs => by simp [dats, dats_iff (xs := xs)]
theorem deps_le {n : Nat} : ∀ {xs : List Va}, (∀ x ∈ xs, dep x ≤ n) → deps xs ≤ n
  | [], _ => Nat.zero_le _
  | x :: xs, h => Nat.max_le.mpr ⟨h x List.mem_cons_self, deps_le fun y hy => h y (List.mem_cons_of_mem _ hy)⟩
section
variable {S : Sto} {v y z : Va} {xs ys : List Va} {P : PV} {I : PI_}
theorem LV.dv (h : LV S v xs) (hd : dats xs = true) : DV S v (pd (.lst xs)) := by
  rcases h with rfl | ⟨k, rfl, hk⟩
  · exact dv_pd (v := .lst xs) hd
  · exact .loc hk (dvs_pd hd)
theorem eq_by {d : Va} (hx : DV S y (pd d)) (hy : DV S z (pd d)) (h1 : dat d = true) (h2 : dep d ≤ 64) (h : P (.bl true) S) : wCmp .eq y z S P := by
  simp only [wCmp]
  exact .inr ⟨_, _, hx, hy, pd_shaped h1 h2, pd_shaped h1 h2, by rw [eqv_self h1]; exact h⟩
theorem ne_by {d : Va} (hx : DV S y (pd d)) (hy : DV S z (pd d)) (h1 : dat d = true) (h2 : dep d ≤ 64) (h : P (.bl false) S) : wCmp .ne y z S P := by
  simp only [wCmp]
  exact .inr ⟨_, _, hx, hy, pd_shaped h1 h2, pd_shaped h1 h2, by rw [eqv_self h1]; exact h⟩
/-- a walk of a list that stands, through stores that keep what stood -/
theorem LV.seq (h : LV S v xs) (hI : ∀ G : Sto → Prop, (∀ S', (∀ (k : Nat) (o : Ob), S[k]? = some o → S'[k]? = some o) → G S') → I xs G S) : wSeq v S I := by
  rcases h with rfl | ⟨k, rfl, hk⟩
  · exact hI _ fun _ _ => trivial
  · exact ⟨xs, hk, hI _ fun S' h => h k _ hk⟩
theorem LV.wlst (h : LV S v xs) (hI : ∀ G : Sto → Prop, (∀ S', (∀ (k : Nat) (o : Ob), S[k]? = some o → S'[k]? = some o) → G S') → I xs G S) : wLst v S I := by
  rcases h with rfl | ⟨k, rfl, hk⟩
  · exact hI _ fun _ _ => trivial
  · exact ⟨xs, hk, hI _ fun S' h => h k _ hk⟩
theorem LV.wen (h : LV S v xs) (hI : ∀ G : Sto → Prop, (∀ S', (∀ (k : Nat) (o : Ob), S[k]? = some o → S'[k]? = some o) → G S') → I xs G S) : wEn v S I := by
  rcases h with rfl | ⟨k, rfl, hk⟩
  · exact hI _ fun _ _ => trivial
  · exact ⟨xs, hk, hI _ fun S' h => h k _ hk⟩
theorem LV.list (h : LV S v xs) (hp : P (.loc S.length) (S ++ [.lst xs])) : wBlt .list [v] S P := by
  rcases h with rfl | ⟨k, rfl, hk⟩
  · exact hp
  · exact ⟨.lst xs, hk, hp⟩
theorem LV.tuple (h : LV S v xs) (hp : P (.tup xs) S) : wBlt .tuple [v] S P := by
  rcases h with rfl | ⟨k, rfl, hk⟩
  · exact hp
  · exact ⟨xs, hk, hp⟩
theorem LV.len (h : LV S v xs) (hp : P (.int xs.length) S) : wLen v S P := by
  rcases h with rfl | ⟨k, rfl, hk⟩
  · exact hp
  · exact ⟨.lst xs, hk, hp⟩
theorem LV.cat (h : LV S v xs) (h' : LV S y ys) (hl : xs.length + ys.length ≤ 1000000) (hp : P (.loc S.length) (S ++ [.lst (xs ++ ys)])) : wBin .add v y S P := by
  rcases h with rfl | ⟨k, rfl, hk⟩
  · exact ⟨xs, .inl rfl, ys, h', hl, hp⟩
  · exact ⟨xs, .inr ⟨k, rfl, hk⟩, ys, h', hl, hp⟩
theorem LV.slice {lo hi : Option Int} (h : LV S v xs) (hp : P (.loc S.length) (S ++ [.lst (cutA xs lo hi)])) : wSlice v lo hi S P := by
  rcases h with rfl | ⟨k, rfl, hk⟩
  · exact hp
  · exact ⟨xs, hk, hp⟩
theorem LV.sub {i : Int} {u : Va} (h : LV S v xs) (hi : L2.atI xs i = some u) (hp : P u S) : wSub v (.int i) S P := by
  rcases h with rfl | ⟨k, rfl, hk⟩
  · exact ⟨u, hi, hp⟩
  · exact ⟨.lst xs, hk, u, hi, hp⟩
theorem LV.ty {t : Ty} (h : LV S v xs) : tyIs S v t = some (t == .list) := by
  rcases h with rfl | ⟨k, rfl, hk⟩
  · rfl
  · exact ty_loc hk
theorem LV.tru (h : LV S v xs) : AM.tru S v = some (!xs.isEmpty) := by
  rcases h with rfl | ⟨k, rfl, hk⟩
  · rfl
  · exact tru_loc hk
theorem LV.parts (h : LV S v xs) : partsOf S v = some xs := by
  rcases h with rfl | ⟨k, rfl, hk⟩
  · rfl
  · simp only [partsOf, hk]
theorem LV.bind {ts : Tgs} {Γ : Env} (h : LV S v xs) : bindT S (.tup ts) v Γ = bindTs S ts xs Γ := by
  simp only [bindT, h.parts]
/-- .. in a longer store -/
theorem LV.more (h : LV S v xs) (N : Sto) : LV (S ++ N) v xs := by
  rcases h with rfl | ⟨k, rfl, hk⟩
  · exact .inl rfl
  · exact .inr ⟨k, rfl, by rw [List.getElem?_append_left (lt_of_get hk)]; exact hk⟩
theorem LV.here {xs : List Va} {N : Sto} : LV (S ++ (.lst xs :: N)) (.loc S.length) xs := .inr ⟨_, rfl, by rw [sg_p0]; rfl⟩
theorem LV.at {i : Nat} {N : Sto} (h : N[i]? = some (.lst xs)) : LV (S ++ N) (.loc (S.length + i)) xs := .inr ⟨_, rfl, by rw [sg_pl]; exact h⟩
theorem kept_app {N : Sto} : ∀ (k : Nat) (o : Ob), S[k]? = some o → (S ++ N)[k]? = some o := fun k o h => by
  rw [List.getElem?_append_left (lt_of_get h)]; exact h
end
/-- a comprehension by a word of the turn and of what was gathered -/
theorem cpL_inv {C : Orc} (hC : OrcMono C) {own : List Nat} {elt : Ex} {tg : Tg} {cond : Tes0} {G : Sto → Prop} {Γ : Env} {S1 : Sto} {P : PV} {xs : List Va} (I : Nat → List Va → Prop) (hG : ∀ acc, G (S1 ++ [.lst acc])) (h0 : I 0 [])
    (h : ∀ i x acc, xs[i]? = some x → I i acc → ∃ Γ1, bindT (S1 ++ [.lst acc]) tg x (wipeA Γ own) = some Γ1 ∧ WT0 C cond Γ1 (S1 ++ [.lst acc]) fun b S2 => S2 = S1 ++ [.lst acc] ∧ if b = true then W C elt Γ1 (S1 ++ [.lst acc]) (fun v S3 => S3 = S1 ++ [.lst acc] ∧ acc.length < 1000000 ∧ I (i + 1) (acc ++ [v])) (fun _ _ => False) else I (i + 1) acc)
    (hP : ∀ acc, I xs.length acc → P (.loc S1.length) (S1 ++ [.lst acc])) : cpB C own elt tg cond G S1.length P xs Γ (S1 ++ [.lst []]) := by
  have key : ∀ (m i : Nat) (acc : List Va), i + m = xs.length → I i acc → cpL (fun x S => bindT S tg x (wipeA Γ own)) (fun Γ S Q => WT0 C cond Γ S Q) (fun Γ S Q => W C elt Γ S Q (fun _ _ => False)) G S1.length P (xs.drop i) (S1 ++ [.lst acc]) := by
    intro m
    induction m with
    | zero =>
      intro i acc hi hI
      have e : i = xs.length := by omega
      subst e
      rw [List.drop_length]
      exact hP acc hI
    | succ m ih =>
      intro i acc hi hI
      have hlt : i < xs.length := by omega
      rw [List.drop_eq_getElem_cons hlt]
      obtain ⟨Γ1, h1, h2⟩ := h i xs[i] acc (by simp [hlt]) hI
      refine ⟨Γ1, h1, WT0_mono hC cond _ _ _ _ (fun b S2 ⟨e, q⟩ => ?_) h2⟩
      rw [e]
      cases b with
      | true =>
        rw [if_pos rfl] at q ⊢
        refine W_mono hC elt _ _ _ _ _ _ (fun v S3 ⟨e2, q1, q2⟩ => ?_) (fun _ _ z => z) q
        rw [e2]
        have e3 : (S1 ++ [Ob.lst acc]).set S1.length (.lst (acc ++ [v])) = S1 ++ [.lst (acc ++ [v])] := by rw [ss_p0]; rfl
        exact ⟨acc, by rw [sg_p0]; rfl, q1, by rw [e3]; exact hG _, by rw [e3]; exact ih (i + 1) _ (by omega) q2⟩
      | false =>
        rw [if_neg (by decide)] at q ⊢
        exact ⟨hG _, ih (i + 1) acc (by omega) q⟩
  exact key xs.length 0 [] (by omega) h0
theorem lgl {j : Int} {n : Nat} (h : j.natAbs < 2 ^ n) : j.natAbs.log2 ≤ n := by
  by_cases z : j.natAbs = 0
  · rw [z]; exact Nat.zero_le _
  · exact Nat.le_of_lt ((Nat.log2_lt z).mpr h)
theorem bits_lg {i : Int} {n : Nat} (h : Builtin.Int.intBits i ≤ n) : i.natAbs.log2 ≤ n := by
  unfold Builtin.Int.intBits at h
  split at h
  · rename_i z
    have e : i = 0 := by simpa using z
    subst e
    exact Nat.zero_le _
  · omega
theorem ixn {n j : Nat} (hj : j < n) : L2.ixN n (j : Int) = some j := by
  have h2 : (j : Int) < (n : Int) := by omega
  unfold L2.ixN
  simp [h2]
end AM
end

section
set_option linter.all false
set_option maxRecDepth 100000
set_option maxHeartbeats 2000000
/-! Names, pools of names, traits told: what the laws draw. -/
open PySem
namespace AN
open AM
def f_l_cell : Fn := ⟨["_law_script", "_law_k"], ["_law_script", "_law_k"],
  (.cons (.ite (.val (.cmp .lt (.var 1) (.len (.var 0)))) (.cons (.ret (.sub (.var 0) (.var 1)))
  .nil) .nil)
  (.cons (.ret (.int 0))
  .nil))⟩
def f_l_mix : Fn := ⟨["_law_cell_here", "_law_way"], ["_law_cell_here", "_law_way", "_law_first"],
  (.cons (.set 2 (.bin .mod (.bin .add (.bin .mul (.var 0) (.int 48271)) (.bin .mul (.var 1) (.int 7919))) (.int 2147483647)))
  (.cons (.ret (.bin .mod (.bin .mul (.var 2) (.bin .add (.int 16807) (.bin .mul (.int 2) (.var 1)))) (.int 1000003)))
  .nil))⟩
def f_l_name : Fn := ⟨["_law_cell_here", "_law_way"], ["_law_cell_here", "_law_way", "_law_letters", "_law_size", "_law_k"],
  (.cons (.set 2 (.str "abcdefghijklmnopqrstuvwxyz"))
  (.cons (.set 3 (.bin .add (.int 1) (.bin .mod (.call "_law_mix" (.cons (.var 0) (.cons (.bin .add (.var 1) (.int 3)) .nil))) (.int 8))))
  (.cons (.ret (.mth .join (.str "") (.cons (.comp [4] (.sub (.var 2) (.bin .mod (.call "_law_mix" (.cons (.var 0) (.cons (.bin .add (.var 1) (.bin .mul (.int 5) (.var 4))) .nil))) (.int 26))) (.name 4) (.range1 (.var 3)) .none) .nil)))
  .nil)))⟩
def f_l_pool : Fn := ⟨["_law_script", "_law_at"], ["_law_script", "_law_at", "_law_letters", "_law_one", "_law_draw", "_law_place", "_law_sign", "_law_two", "_law_three"],
  (.cons (.set 2 (.str "abcdefghijklmnopqrstuvwxyz"))
  (.cons (.set 3 (.call "_law_name" (.cons (.call "_law_cell" (.cons (.var 0) (.cons (.var 1) .nil))) (.cons (.int 1) .nil))))
  (.cons (.set 4 (.call "_law_mix" (.cons (.call "_law_cell" (.cons (.var 0) (.cons (.bin .add (.var 1) (.int 1)) .nil))) (.cons (.int 2) .nil))))
  (.cons (.set 5 (.bin .mod (.var 4) (.len (.var 3))))
  (.cons (.set 6 (.sub (.var 2) (.bin .mod (.bin .fdiv (.var 4) (.int 8)) (.int 26))))
  (.cons (.set 7 (.bin .add (.bin .add (.slice (.var 3) .none (.some (.var 5))) (.var 6)) (.slice (.var 3) (.some (.bin .add (.var 5) (.int 1))) .none)))
  (.cons (.set 8 (.slice (.bin .add (.var 3) (.var 6)) (.some (.neg (.int 8))) .none))
  (.cons (.ret (.lst (.cons (.var 3) (.cons (.var 7) (.cons (.var 8) (.cons (.call "_law_name" (.cons (.call "_law_cell" (.cons (.var 0) (.cons (.bin .add (.var 1) (.int 1)) .nil))) (.cons (.int 4) .nil))) .nil))))))
  .nil))))))))⟩
def f_l_plain : Fn := ⟨["_law_cell_here", "_law_way", "_law_pool_here"], ["_law_cell_here", "_law_way", "_law_pool_here", "_law_draw", "_law_kind", "_law_first", "_law_every"],
  (.cons (.set 3 (.call "_law_mix" (.cons (.var 0) (.cons (.var 1) .nil))))
  (.cons (.set 4 (.bin .mod (.var 3) (.int 6)))
  (.cons (.ite (.or (.cons (.val (.cmp .eq (.var 4) (.int 0))) (.one (.val (.cmp .eq (.var 4) (.int 5)))))) (.cons (.ret (.tup (.cons (.str "any") .nil)))
  .nil) .nil)
  (.cons (.ite (.val (.cmp .eq (.var 4) (.int 1))) (.cons (.ret (.tup (.cons (.str "name") (.cons (.sub (.var 2) (.bin .mod (.bin .fdiv (.var 3) (.int 6)) (.int 4))) .nil))))
  .nil) .nil)
  (.cons (.ite (.val (.cmp .eq (.var 4) (.int 2))) (.cons (.ret (.tup (.cons (.str "mark") (.cons (.sub (.var 2) (.bin .mod (.bin .fdiv (.var 3) (.int 6)) (.int 4))) .nil))))
  .nil) .nil)
  (.cons (.set 5 (.bin .mod (.bin .fdiv (.var 3) (.int 6)) (.int 6)))
  (.cons (.set 6 (.bin .mod (.bin .fdiv (.var 3) (.int 36)) (.int 4)))
  (.cons (.ite (.val (.cmp .eq (.bin .mod (.bin .fdiv (.var 3) (.int 144)) (.int 8)) (.int 5))) (.cons (.set 5 (.bin .mod (.var 0) (.bin .pow (.int 10) (.int 30))))
  (.cons (.set 6 (.bin .fdiv (.var 3) (.int 1152)))
  .nil)) .nil)
  (.cons (.ite (.val (.cmp .eq (.bin .mod (.bin .fdiv (.var 3) (.int 144)) (.int 8)) (.int 6))) (.cons (.set 6 (.bin .mod (.var 0) (.bin .pow (.int 10) (.int 30))))
  .nil) .nil)
  (.cons (.ret (.tup (.cons (.sub (.lst (.cons (.str "front") (.cons (.str "back") .nil))) (.bin .mod (.var 4) (.int 2))) (.cons (.var 5) (.cons (.var 6) .nil)))))
  .nil))))))))))⟩
def f_l_trait : Fn := ⟨["_law_cell_here", "_law_way", "_law_pool_here", "_law_deep"], ["_law_cell_here", "_law_way", "_law_pool_here", "_law_deep", "_law_draw", "_law_k"],
  (.cons (.set 4 (.call "_law_mix" (.cons (.var 0) (.cons (.bin .add (.var 1) (.int 13)) .nil))))
  (.cons (.ite (.or (.cons (.val (.cmp .eq (.var 3) (.int 0))) (.one (.val (.cmp .lt (.bin .mod (.var 4) (.int 4)) (.int 2)))))) (.cons (.ret (.call "_law_plain" (.cons (.var 0) (.cons (.var 1) (.cons (.var 2) .nil)))))
  .nil) .nil)
  (.cons (.ite (.val (.cmp .eq (.bin .mod (.var 4) (.int 4)) (.int 2))) (.cons (.ret (.tup (.cons (.str "not") (.cons (.call "_law_trait" (.cons (.var 0) (.cons (.bin .add (.var 1) (.int 7)) (.cons (.var 2) (.cons (.bin .sub (.var 3) (.int 1)) .nil))))) .nil))))
  .nil) .nil)
  (.cons (.ret (.tup (.cons (.str "one") (.cons (.blt .tuple (.cons (.comp [5] (.call "_law_trait" (.cons (.var 0) (.cons (.bin .add (.bin .add (.var 1) (.bin .mul (.int 19) (.var 5))) (.int 23)) (.cons (.var 2) (.cons (.bin .sub (.var 3) (.int 1)) .nil))))) (.name 5) (.range1 (.bin .mod (.bin .fdiv (.var 4) (.int 4)) (.int 4))) .none) .nil)) .nil))))
  .nil))))⟩
end AN
namespace NM
open PySem AM
local macro_rules | `(tactic| walk_at "am") => `(tactic| try simp only [st_set0, st_setS, iteTrue, iteFalse, iteDec, iteNDec, exSome, exBl, W_var, W_int, W_bl, W_non, W_str, W_tup, W_lst, W_bin, W_neg, W_cmp, W_isN, W_notN, W_lrev, W_maxd, W_sortk, wIsb, wNisb, W_chain, W_chain3, W_tst, W_ite, W_call, W_len, W_abs, W_isi, W_sub, WT_val, WT_not, WT_and, WT_or, WA_one, WA_cons, WO_one, WO_cons, WB_val, WB_not, WB_and, WB_or, WBA_one, WBA_cons, WBO_one, WBO_cons, WL_nil, WL_cons, WS_set, WS_ret, WS_retN, WS_pass, WS_brk, WS_cont, WS_drop, WS_ite, WS_raise, WSs_nil, Ss_set, Ss_ret, Ss_retN, Ss_pass, Ss_brk, Ss_cont, Ss_drop, Ss_raise, Ss_ite_ret, Ss_ite_retN, Ss_ite_raise, Ss_ite_cont, Ss_ite_brk, Ss_ite_last, gt_0, gt_S, wAdd_int, wSub_int, wMul_int, wMul_rep, wMul_str, wDiv_int, wMod_int, wPow_int, wAdd_str, wNeg_int, wAbs_int, wLt_int, wLe_int, wGt_int, wGe_int, wEq_int, wNe_int, wEq_bl, wNe_bl, wEq_str, wNe_str, wLen_tup, wLen_lst, tru_bl, tru_int, ty_int_int, ty_int_bool, ty_int_str, ty_int_tuple, ty_int_list, ty_int_dict, ty_bl_int, ty_bl_bool, ty_bl_str, ty_bl_tuple, ty_bl_list, ty_bl_dict, ty_str_int, ty_str_bool, ty_str_str, ty_str_tuple, ty_str_list, ty_str_dict, ty_tup_int, ty_tup_bool, ty_tup_str, ty_tup_tuple, ty_tup_list, ty_tup_dict, ty_lst_int, ty_lst_bool, ty_lst_str, ty_lst_tuple, ty_lst_list, ty_lst_dict, ty_dct_int, ty_dct_bool, ty_dct_str, ty_dct_tuple, ty_dct_list, ty_dct_dict, ty_non, sub_tup0, sub_tup1, sub_tup2, sub_tup3, sub_tup4, sub_tup5, sub_lst0, sub_lst1, sub_lst2, sub_lst3, sub_lst4, sub_lst5, startA, List.map_cons, List.map_nil, List.length_cons, List.length_nil, List.replicate, List.cons_append, List.nil_append, true_and, and_true, ne_eq, isNon, Bool.not_true, Bool.not_false, Bool.true_or, Bool.or_true, Bool.false_or, reduceIte, Nat.reduceAdd, Nat.zero_add, Int.cast_ofNat_Int, Int.reduceEq, Int.reduceLT, Int.reduceLE, Nat.reduceLeDiff, decide_true, decide_false, not_true_eq_false, not_false_eq_true, Nat.reduceSub, Int.reduceToNat, W_slice, W_blt, W_mth, W_comp, WOe_none, WOe_some, WI_seq, WI_keys, WI_items, WI_range1, WI_range2, WI_enum, WI_zip, WI_rev, WI_revr, WI_rangeD, WT0_none, WT0_some, Ss_asg, Ss_setSub, Ss_aug, WS_asg, WS_aug, WS_for, WS_setC, bT_name, bT_tup, bT_lst, bTs_nil, bTs_name, seq_lst, seq_tup, seq_scr, seq_str, seq_loc, en_tup, en_lst, en_scr, en_loc, lst_lst, lst_scr, lst_loc, exInt, exLoc, exLst, exLst1, exLV_lst, exLV_loc, mOk_app, mOk_pop, mOk_ext, mOk_ins, mOk_ind, mOk_join, mOk_indl, m_append, m_pop, m_extend, m_insert, m_join, b_listL, b_listT, b_listS, b_listK, b_tupL, b_tupT, b_tupK, b_max2, b_min2, b_ord, b_str, sl_lst, sl_loc, sl_scr, sl_tupE, sl_strE, cat_lst, cat_loc, cat_tup, wLen_scr, wLen_loc, wLen_str, wSub_scr, wSub_loc, wSub_str, aug_add, aug_sub, tru_lst, tru_tup, tru_non, ty_scr_list, sg_p0, sg_pl, ss_p0, ss_pl, ob_set0, ob_set1, ob_set2, ob_set3, ob_g0, ob_g1, ob_g2, ob_g3, List.append_assoc, List.length_append, List.nil_append, Nat.add_zero, Nat.add_assoc, Int.reduceNeg, wipeA, orc_run, orc_glob, orc_init, orc_isa, orc_gdct, W_isc, W_isE, W_isEt, orc_xk, m_upper, m_partition, m_split, m_endswith, m_find, mOk_upper, mOk_partition, mOk_split, mOk_endswith, mOk_find, b_intB, W_glob, W_gget, W_fld, W_mcall, W_make, W_make0, W_dsp, Ss_setFld, subO_l, subO_d, subO_k, lenO_l, lenO_d, listO_l, listO_d, putO_l, keyV_int, keyV_str, wIn_str, wNotin_str, mapSome, at_0, at_1, at_2, at_3, at_4, at_5, ix_1_0, ix_2_0, ix_2_1, ix_3_0, ix_3_1, ix_3_2, ix_4_0, ix_4_1, ix_4_2, ix_4_3, va_s0, va_s1, va_s2, va_s3])
local macro_rules | `(tactic| walk_at "if") => `(tactic| (try simp only []); rw [Ss_ite]; simp only [st_set0, st_setS, iteTrue, iteFalse, iteDec, iteNDec, exSome, exBl, W_var, W_int, W_bl, W_non, W_str, W_tup, W_lst, W_bin, W_neg, W_cmp, W_isN, W_notN, W_lrev, W_maxd, W_sortk, wIsb, wNisb, W_chain, W_chain3, W_tst, W_ite, W_call, W_len, W_abs, W_isi, W_sub, WT_val, WT_not, WT_and, WT_or, WA_one, WA_cons, WO_one, WO_cons, WB_val, WB_not, WB_and, WB_or, WBA_one, WBA_cons, WBO_one, WBO_cons, WL_nil, WL_cons, WS_set, WS_ret, WS_retN, WS_pass, WS_brk, WS_cont, WS_drop, WS_ite, WS_raise, WSs_nil, Ss_set, Ss_ret, Ss_retN, Ss_pass, Ss_brk, Ss_cont, Ss_drop, Ss_raise, Ss_ite_ret, Ss_ite_retN, Ss_ite_raise, Ss_ite_cont, Ss_ite_brk, Ss_ite_last, gt_0, gt_S, wAdd_int, wSub_int, wMul_int, wMul_rep, wMul_str, wDiv_int, wMod_int, wPow_int, wAdd_str, wNeg_int, wAbs_int, wLt_int, wLe_int, wGt_int, wGe_int, wEq_int, wNe_int, wEq_bl, wNe_bl, wEq_str, wNe_str, wLen_tup, wLen_lst, tru_bl, tru_int, ty_int_int, ty_int_bool, ty_int_str, ty_int_tuple, ty_int_list, ty_int_dict, ty_bl_int, ty_bl_bool, ty_bl_str, ty_bl_tuple, ty_bl_list, ty_bl_dict, ty_str_int, ty_str_bool, ty_str_str, ty_str_tuple, ty_str_list, ty_str_dict, ty_tup_int, ty_tup_bool, ty_tup_str, ty_tup_tuple, ty_tup_list, ty_tup_dict, ty_lst_int, ty_lst_bool, ty_lst_str, ty_lst_tuple, ty_lst_list, ty_lst_dict, ty_dct_int, ty_dct_bool, ty_dct_str, ty_dct_tuple, ty_dct_list, ty_dct_dict, ty_non, sub_tup0, sub_tup1, sub_tup2, sub_tup3, sub_tup4, sub_tup5, sub_lst0, sub_lst1, sub_lst2, sub_lst3, sub_lst4, sub_lst5, startA, List.map_cons, List.map_nil, List.length_cons, List.length_nil, List.replicate, List.cons_append, List.nil_append, true_and, and_true, ne_eq, isNon, Bool.not_true, Bool.not_false, Bool.true_or, Bool.or_true, Bool.false_or, reduceIte, Nat.reduceAdd, Nat.zero_add, Int.cast_ofNat_Int, Int.reduceEq, Int.reduceLT, Int.reduceLE, Nat.reduceLeDiff, decide_true, decide_false, not_true_eq_false, not_false_eq_true, Nat.reduceSub, Int.reduceToNat, W_slice, W_blt, W_mth, W_comp, WOe_none, WOe_some, WI_seq, WI_keys, WI_items, WI_range1, WI_range2, WI_enum, WI_zip, WI_rev, WI_revr, WI_rangeD, WT0_none, WT0_some, Ss_asg, Ss_setSub, Ss_aug, WS_asg, WS_aug, WS_for, WS_setC, bT_name, bT_tup, bT_lst, bTs_nil, bTs_name, seq_lst, seq_tup, seq_scr, seq_str, seq_loc, en_tup, en_lst, en_scr, en_loc, lst_lst, lst_scr, lst_loc, exInt, exLoc, exLst, exLst1, exLV_lst, exLV_loc, mOk_app, mOk_pop, mOk_ext, mOk_ins, mOk_ind, mOk_join, mOk_indl, m_append, m_pop, m_extend, m_insert, m_join, b_listL, b_listT, b_listS, b_listK, b_tupL, b_tupT, b_tupK, b_max2, b_min2, b_ord, b_str, sl_lst, sl_loc, sl_scr, sl_tupE, sl_strE, cat_lst, cat_loc, cat_tup, wLen_scr, wLen_loc, wLen_str, wSub_scr, wSub_loc, wSub_str, aug_add, aug_sub, tru_lst, tru_tup, tru_non, ty_scr_list, sg_p0, sg_pl, ss_p0, ss_pl, ob_set0, ob_set1, ob_set2, ob_set3, ob_g0, ob_g1, ob_g2, ob_g3, List.append_assoc, List.length_append, List.nil_append, Nat.add_zero, Nat.add_assoc, Int.reduceNeg, wipeA, orc_run, orc_glob, orc_init, orc_isa, orc_gdct, W_isc, W_isE, W_isEt, orc_xk, m_upper, m_partition, m_split, m_endswith, m_find, mOk_upper, mOk_partition, mOk_split, mOk_endswith, mOk_find, b_intB, W_glob, W_gget, W_fld, W_mcall, W_make, W_make0, W_dsp, Ss_setFld, subO_l, subO_d, subO_k, lenO_l, lenO_d, listO_l, listO_d, putO_l, keyV_int, keyV_str, wIn_str, wNotin_str, mapSome, at_0, at_1, at_2, at_3, at_4, at_5, ix_1_0, ix_2_0, ix_2_1, ix_3_0, ix_3_1, ix_3_2, ix_4_0, ix_4_1, ix_4_2, ix_4_3, va_s0, va_s1, va_s2, va_s3])
theorem fm (c m : Int) (hm : 0 < m) : 0 ≤ c.fmod m ∧ c.fmod m < m := by
  rw [Int.fmod_eq_emod_of_nonneg c (by omega)]
  exact ⟨Int.emod_nonneg c (by omega), Int.emod_lt_of_pos c hm⟩
theorem fd0 {c m : Int} (hc : 0 ≤ c) (hm : 0 < m) : 0 ≤ c.fdiv m := by
  rw [Int.fdiv_eq_ediv_of_nonneg _ (by omega)]
  exact Int.ediv_nonneg hc (by omega)
theorem cdv (j : Int) (h0 : 0 < j) (h : j.natAbs < 2 ^ 200) : CDivA j := by
  refine ⟨by omega, ?_⟩
  by_cases z : j.natAbs = 0
  · rw [z]; decide +kernel
  · exact (Nat.log2_lt z).mpr (Nat.lt_of_lt_of_le h (Nat.pow_le_pow_right (by decide) (by decide)))
theorem c30 : L2.CPow 10 30 := ⟨by decide, by decide, by decide⟩
abbrev ch (c : Nat) : Str := ⟨#[c]⟩
def sL : Str := "abcdefghijklmnopqrstuvwxyz"
theorem L_len : sL.cps.toList.length = 26 := by decide +kernel
theorem L_at (i : Nat) (h : i < 26) : sL.cps.toList[i]? = some (97 + i) := by
  have e : sL.cps.toList = List.range' 97 26 := by decide +kernel
  rw [e, List.getElem?_range' (by omega)]
  simp
/-- a name's letters -/
structure Nm (cs : List Nat) : Prop where
  pos : 1 ≤ cs.length
  max : cs.length ≤ 8
  let_ : ∀ c ∈ cs, 97 ≤ c ∧ c ≤ 122
def sx (cs : List Nat) : Str := ⟨cs.toArray⟩
theorem sx_len (cs : List Nat) : (sx cs).length = cs.length := by simp [sx, PySem.Str.length]
theorem sx_cut (cs : List Nat) (lo hi : Option Int) : L2.cutS (sx cs) lo hi = sx (cutA cs lo hi) := by
  unfold L2.cutS cutA sx
  simp [PySem.Str.length]
theorem sx_app (a b : List Nat) : sx a ++ sx b = sx (a ++ b) := by
  show (⟨a.toArray ++ b.toArray⟩ : Str) = ⟨(a ++ b).toArray⟩
  simp
theorem sx_ch (c : Nat) : ch c = sx [c] := rfl
theorem join_ch : ∀ cs : List Nat, Txt.join "" (cs.map ch) = sx cs := by
  intro cs
  show Builtin.Str.glued "" (cs.map ch) = _
  rw [StrLaws.glued_eq_join]
  induction cs with
  | nil => rfl
  | cons c r ih =>
    cases r with
    | nil => rfl
    | cons d r =>
      show ch c ++ "" ++ Str.join "" (ch d :: r.map ch) = _
      have ih' : Str.join "" (ch d :: r.map ch) = sx (d :: r) := ih
      rw [ih']
      show (⟨(#[c] ++ #[]) ++ (d :: r).toArray⟩ : Str) = ⟨(c :: d :: r).toArray⟩
      congr 1
      simp
theorem cutF {α : Type} {xs : List α} {k : Nat} : cutA xs (some (k : Int)) none = xs.drop k := by
  unfold cutA
  rw [HT.sIx_nat, HT.sIx_none]
  by_cases h : k ≤ xs.length
  · rw [Nat.min_eq_left h, List.take_of_length_le (by rw [List.length_drop]; omega)]
  · rw [Nat.min_eq_right (by omega), List.drop_length, List.drop_eq_nil_of_le (by omega), List.take_nil]
theorem cutT {α : Type} {xs : List α} {k : Nat} : cutA xs none (some (k : Int)) = xs.take k := by
  unfold cutA
  rw [HT.sIx_nat, HT.sIx_none, Nat.sub_zero, List.drop_zero]
  by_cases h : k ≤ xs.length
  · rw [Nat.min_eq_left h]
  · rw [Nat.min_eq_right (by omega), List.take_length, List.take_of_length_le (by omega)]
theorem cutB {α : Type} {xs : List α} : cutA xs (some (-8)) none = xs.drop (xs.length - 8) := by
  unfold cutA
  have e : HT.sIx xs.length 0 (some (-8)) = xs.length - 8 := by
    show (if (-8 : Int) < 0 then ((-8 : Int) + (xs.length : Int)).toNat else min (-8 : Int).toNat xs.length) = _
    rw [if_pos (by decide)]
    omega
  rw [e, HT.sIx_none]
  exact List.take_of_length_le (by rw [List.length_drop]; omega)
structure NmT (T : Tab) : Prop where
  cell : T "_law_cell" = some AN.f_l_cell
  mix : T "_law_mix" = some AN.f_l_mix
  name : T "_law_name" = some AN.f_l_name
structure PoT (T : Tab) : Prop extends NmT T where
  pool : T "_law_pool" = some AN.f_l_pool
structure PlT (T : Tab) : Prop extends NmT T where
  plain : T "_law_plain" = some AN.f_l_plain
structure TrT (T : Tab) : Prop extends PlT T where
  trait : T "_law_trait" = some AN.f_l_trait
/-- a cell's bits -/
def Cb (c : Int) : Prop := c.natAbs.log2 ≤ 1048576
section
variable {T : Tab} (t : NmT T)
include t
theorem cell_ok (ns : List Int) (hb : ∀ z ∈ ns, Builtin.Int.intBits z ≤ 1048576) (k : Nat) (i : Int) (hi : 0 ≤ i) {S : Sto} {P : PV} {E : PX} (h : ∀ c : Int, Cb c → P (.int c) S) : call T (k + 1) "_law_cell" [.scr ns, .int i] S P E := by
  refine call_def t.cell rfl ?_
  unfold AN.f_l_cell
  walk_at "am"
  obtain ⟨n, rfl⟩ := Int.eq_ofNat_of_zero_le hi
  split
  · rename_i hl
    have hl' : n < ns.length := by omega
    exact ⟨ns[n], L2.atI_nat (by simp [hl']), fin_keep (h _ (bits_lg (hb _ (List.getElem_mem hl'))))⟩
  · exact fin_keep (h 0 (Nat.zero_le _))
theorem mix_ok (k : Nat) (c w : Int) (hc : Cb c) (hw : w.natAbs ≤ 20000) {S : Sto} {P : PV} {E : PX} (h : ∀ m : Int, 0 ≤ m → m < 1000003 → P (.int m) S) : call T (k + 1) "_law_mix" [.int c, .int w] S P E := by
  refine call_def t.mix rfl ?_
  unfold AN.f_l_mix
  walk_at "am"
  have l1 : (48271 : Int).natAbs.log2 ≤ 16 := lgl (by decide)
  have l2 : (7919 : Int).natAbs.log2 ≤ 16 := lgl (by decide)
  have l3 : w.natAbs.log2 ≤ 15 := lgl (by omega)
  have m1 := fm (c * 48271 + w * 7919) 2147483647 (by decide)
  generalize (c * 48271 + w * 7919).fmod 2147483647 = m at *
  have l4 : m.natAbs.log2 ≤ 31 := lgl (by omega)
  have l5 : (16807 + 2 * w).natAbs.log2 ≤ 17 := lgl (by omega)
  have l6 : (2 : Int).natAbs.log2 ≤ 2 := lgl (by decide)
  have m2 := fm (m * (16807 + 2 * w)) 1000003 (by decide)
  unfold Cb at hc
  exact ⟨by unfold CMulA; omega, by unfold CMulA; omega, by unfold CMulA; omega, by unfold CMulA; omega, fin_keep (h _ m2.1 m2.2)⟩
theorem name_ok (k : Nat) (c w : Int) (hc : Cb c) (hw : w.natAbs ≤ 19000) {S : Sto} {P : PV} {E : PX} (h : ∀ cs : List Nat, Nm cs → P (.str (sx cs)) S) : call T (k + 2) "_law_name" [.int c, .int w] S P E := by
  refine call_def t.name rfl ?_
  unfold AN.f_l_name
  walk_at "am"
  refine mix_ok t _ c (w + 3) hc (by omega) fun m m0 m1 => ?_
  walk_at "am"
  have m8 := fm m 8 (by decide)
  refine ⟨by omega, by omega, ?_⟩
  refine cpL_inv (call_mono _ _) (fun i acc => ∃ cs : List Nat, cs.length = i ∧ (∀ c ∈ cs, 97 ≤ c ∧ c ≤ 122) ∧ acc = (cs.map ch).map Va.str) (fun acc => trivial) ⟨[], rfl, by simp, rfl⟩ ?_ ?_
  · rintro i x acc hx ⟨cs, h1, h2, rfl⟩
    obtain ⟨hi, rfl⟩ := rangeV_get hx
    refine ⟨_, rfl, ?_⟩
    walk_at "am"
    refine ⟨by have l1 : (5 : Int).natAbs.log2 ≤ 3 := lgl (by decide); have l2 : ((0 : Int) + (i : Nat)).natAbs.log2 ≤ 4 := lgl (by omega); unfold CMulA; omega, ?_⟩
    refine mix_ok t _ c _ hc (by omega) fun m m0 m1 => ?_
    have m26 := fm m 26 (by decide)
    obtain ⟨j, hj⟩ := Int.eq_ofNat_of_zero_le m26.1
    walk_at "am"
    rw [hj]
    refine ⟨97 + j, by decide +kernel, L2.atI_nat (L_at j (by omega)), ?_⟩
    refine ⟨by rw [List.length_map, List.length_map]; omega, cs ++ [97 + j], by rw [List.length_append, h1]; rfl, fun c hc => ?_, by simp⟩
    rcases List.mem_append.mp hc with z | z
    · exact h2 c z
    · rw [List.mem_singleton.mp z]; omega
  rintro acc ⟨cs, h1, h2, rfl⟩
  rw [rangeV_len] at h1
  have hcs : Nm cs := ⟨by omega, by omega, h2⟩
  refine ⟨cs.map ch, .inr LV.here, ?_, ?_⟩
  · have e1 : ((cs.map ch).map Str.length) = List.replicate cs.length 1 := by
      rw [List.map_map]
      refine List.eq_replicate_iff.mpr ⟨by simp, fun x hx => ?_⟩
      obtain ⟨c, _, rfl⟩ := List.mem_map.mp hx
      rfl
    rw [e1, List.sum_replicate_nat, List.length_map]
    show cs.length * 1 + cs.length * 0 ≤ 16777216
    omega
  · rw [join_ch]
    exact fin_val rfl (h cs hcs)
end
theorem Nm.two {cs : List Nat} (h : Nm cs) {p : Nat} (hp : p < cs.length) {c : Nat} (hc : 97 ≤ c ∧ c ≤ 122) : Nm (cs.take p ++ [c] ++ cs.drop (p + 1)) where
  pos := by simp; omega
  max := by
    have := h.max
    simp only [List.length_append, List.length_take, List.length_drop, List.length_singleton]
    omega
  let_ := fun x hx => by
    rcases List.mem_append.mp hx with z | z
    · rcases List.mem_append.mp z with z | z
      · exact h.let_ x (List.mem_of_mem_take z)
      · rw [List.mem_singleton.mp z]; exact hc
    · exact h.let_ x (List.mem_of_mem_drop z)
theorem Nm.three {cs : List Nat} (h : Nm cs) {c : Nat} (hc : 97 ≤ c ∧ c ≤ 122) (m : Nat) (hm : m ≤ cs.length) (hm2 : cs.length + 1 - m ≤ 8) : Nm ((cs ++ [c]).drop m) where
  pos := by simp only [List.length_drop, List.length_append, List.length_singleton]; omega
  max := by simp only [List.length_drop, List.length_append, List.length_singleton]; omega
  let_ := fun x hx => by
    rcases List.mem_append.mp (List.mem_of_mem_drop hx) with z | z
    · exact h.let_ x z
    · rw [List.mem_singleton.mp z]; exact hc
/-- four names -/
def pv (ps : List (List Nat)) : List Va := ps.map fun cs => .str (sx cs)
def Pool (ps : List (List Nat)) : Prop := ps.length = 4 ∧ ∀ cs ∈ ps, Nm cs
theorem pls_pv (ps : List (List Nat)) : pls (pv ps) = true := pls_iff.mpr fun x hx => by
  obtain ⟨q, _, rfl⟩ := List.mem_map.mp hx
  rfl
section
variable {T : Tab} (t : PoT T)
include t
theorem pool_ok (ns : List Int) (hb : ∀ z ∈ ns, Builtin.Int.intBits z ≤ 1048576) (k : Nat) (at_ : Int) (hat : 0 ≤ at_) {S : Sto} {P : PV} {E : PX} (h : ∀ ps : List (List Nat), Pool ps → P (.lst (pv ps)) S) : call T (k + 3) "_law_pool" [.scr ns, .int at_] S P E := by
  refine call_def t.pool rfl ?_
  unfold AN.f_l_pool
  walk_at "am"
  refine cell_ok t.toNmT ns hb _ at_ hat fun c1 hc1 => ?_
  refine name_ok t.toNmT _ c1 1 hc1 (by decide) fun cs hcs => ?_
  walk_at "am"
  refine cell_ok t.toNmT ns hb _ (at_ + 1) (by omega) fun c2 hc2 => ?_
  refine mix_ok t.toNmT _ c2 2 hc2 (by decide) fun m m0 m1 => ?_
  walk_at "am"
  have hcl : (sx cs).length = cs.length := sx_len cs
  have hp := hcs.pos
  have hx := hcs.max
  have sl : sizeLine = 2 ^ 24 := by decide
  rw [hcl]
  have mp := fm m cs.length (by omega)
  obtain ⟨p, hp2⟩ := Int.eq_ofNat_of_zero_le mp.1
  have hpl : p < cs.length := by omega
  have m26 := fm (m.fdiv 8) 26 (by decide)
  obtain ⟨j, hj⟩ := Int.eq_ofNat_of_zero_le m26.1
  have hj26 : j < 26 := by omega
  rw [hp2, hj]
  have hc : 97 ≤ 97 + j ∧ 97 + j ≤ 122 := by omega
  have e1 : L2.cutS (sx cs) none (some (p : Int)) = sx (cs.take p) := by rw [sx_cut, cutT]
  have e2 : L2.cutS (sx cs) (some ((p : Int) + 1)) none = sx (cs.drop (p + 1)) := by rw [show (p : Int) + 1 = ((p + 1 : Nat) : Int) by push_cast; rfl, sx_cut, cutF]
  have e3 : L2.cutS (sx cs ++ ⟨#[97 + j]⟩) (some (-8)) none = sx ((cs ++ [97 + j]).drop (cs.length + 1 - 8)) := by
    show L2.cutS (sx cs ++ sx [97 + j]) (some (-8)) none = _
    rw [sx_app, sx_cut, cutB, List.length_append, List.length_singleton]
  refine ⟨by omega, by omega, cdv 8 (by decide) (by decide), 97 + j, by decide +kernel, L2.atI_nat (L_at j hj26), by omega, ?_⟩
  rw [e1, e2, e3]
  have l1 : (⟨#[97 + j]⟩ : Str).length = 1 := rfl
  refine ⟨by rw [sx_len, List.length_take, l1]; omega, by omega, ?_, by rw [l1]; omega, ?_, ?_⟩
  · show (sx (cs.take p) ++ sx [97 + j]).length + _ ≤ _
    rw [sx_app, sx_len, sx_len]
    simp only [List.length_append, List.length_take, List.length_drop, List.length_singleton]
    omega
  · show (sx cs ++ sx [97 + j]).length ≤ _
    rw [sx_app, sx_len]
    simp only [List.length_append, List.length_singleton]
    omega
  refine cell_ok t.toNmT ns hb _ (at_ + 1) (by omega) fun c3 hc3 => ?_
  refine name_ok t.toNmT _ c3 4 hc3 (by decide) fun ds hds => ?_
  have hfin := h [cs, cs.take p ++ [97 + j] ++ cs.drop (p + 1), (cs ++ [97 + j]).drop (cs.length + 1 - 8), ds] ⟨rfl, fun x hx => ?_⟩
  · refine fin_lst0 (xs := pv [cs, cs.take p ++ [97 + j] ++ cs.drop (p + 1), (cs ++ [97 + j]).drop (cs.length + 1 - 8), ds]) ?_ (pls_pv _) hfin
    show some (Ob.lst [Va.str (sx cs), Va.str (sx (cs.take p) ++ sx [97 + j] ++ sx (cs.drop (p + 1))), _, _]) = _
    rw [sx_app, sx_app]
    rfl
  · simp only [List.mem_cons, List.not_mem_nil, or_false] at hx
    rcases hx with rfl | rfl | rfl | rfl
    · exact hcs
    · exact hcs.two hpl hc
    · exact hcs.three hc _ (by omega) (by omega)
    · exact hds
end
/-! ### traits told -/
inductive Tr where
  | any | name (cs : List Nat) | mark (cs : List Nat) | placed (back : Bool) (first every : Int) | not (t : Tr) | one (ts : List Tr)
mutual
def told : Tr → Va
  | .any => .tup [.str "any"]
  | .name cs => .tup [.str "name", .str (sx cs)]
  | .mark cs => .tup [.str "mark", .str (sx cs)]
  | .placed b f e => .tup [.str (if b = true then "back" else "front"), .int f, .int e]
  | .not t => .tup [.str "not", told t]
  | .one ts => .tup [.str "one", .tup (tolds ts)]
def tolds : List Tr → List Va
  | [] => []
  | t :: ts => told t :: tolds ts
end
mutual
theorem pl_told : ∀ t : Tr, pl (told t) = true
  | .any => rfl
  | .name _ => rfl
  | .mark _ => rfl
  | .placed _ _ _ => rfl
  | .not t => by
    show (pl (.str "not") && (pl (told t) && true)) = true
    rw [pl_told t]; rfl
  | .one ts => by
    show (pl (.str "one") && (pls (tolds ts) && true)) = true
    rw [pls_tolds ts]; rfl
theorem pls_tolds : ∀ ts : List Tr, pls (tolds ts) = true
  | [] => rfl
  | t :: ts => by
    show (pl (told t) && pls (tolds ts)) = true
    rw [pl_told t, pls_tolds ts]; rfl
end
theorem tolds_app : ∀ (ts us : List Tr), tolds (ts ++ us) = tolds ts ++ tolds us
  | [], _ => rfl
  | t :: ts, us => by
    show told t :: tolds (ts ++ us) = told t :: (tolds ts ++ tolds us)
    rw [tolds_app ts us]
theorem tolds_len : ∀ ts : List Tr, (tolds ts).length = ts.length
  | [] => rfl
  | t :: ts => by
    show (told t :: tolds ts).length = _
    rw [List.length_cons, tolds_len ts]; rfl
theorem tolds_get : ∀ {ts : List Tr} {i : Nat} {x : Va}, (tolds ts)[i]? = some x → ∃ t, ts[i]? = some t ∧ x = told t
  | [], i, x, h => nomatch h
  | t :: ts, 0, x, h => ⟨t, rfl, (Option.some.inj h).symm⟩
  | t :: ts, i + 1, x, h => tolds_get (ts := ts) h
/-- traits of at most so deep, of the names of a pool -/
inductive TrP (ps : List (List Nat)) : Nat → Tr → Prop
  | any {n : Nat} : TrP ps n .any
  | name {n : Nat} {cs : List Nat} : cs ∈ ps → TrP ps n (.name cs)
  | mark {n : Nat} {cs : List Nat} : cs ∈ ps → TrP ps n (.mark cs)
  | placed {n : Nat} (b : Bool) {f e : Int} : 0 ≤ f → 0 ≤ e → TrP ps n (.placed b f e)
  | not {n : Nat} {t : Tr} : TrP ps n t → TrP ps (n + 1) (.not t)
  | one {n : Nat} {ts : List Tr} : (∀ t ∈ ts, TrP ps n t) → ts.length ≤ 60 → TrP ps (n + 1) (.one ts)
section
variable {T : Tab} (t : PlT T)
include t
theorem plain_ok (k : Nat) (c w : Int) (hc : Cb c) (hw : w.natAbs ≤ 19000) {ps : List (List Nat)} (hp : Pool ps) {u : Va} {S : Sto} {P : PV} {E : PX} (hu : LV S u (pv ps)) (h : ∀ tr, (∀ n, TrP ps n tr) → P (told tr) S) : call T (k + 2) "_law_plain" [.int c, .int w, u] S P E := by
  refine call_def t.plain rfl ?_
  unfold AN.f_l_plain
  walk_at "am"
  refine mix_ok t.toNmT _ c w hc (by omega) fun m m0 m1 => ?_
  walk_at "am"
  have k6 := fm m 6 (by decide)
  have a6 := fm (m.fdiv 6) 6 (by decide)
  have a36 := fm (m.fdiv 36) 4 (by decide)
  have a4 := fm (m.fdiv 6) 4 (by decide)
  obtain ⟨j, hj⟩ := Int.eq_ofNat_of_zero_le a4.1
  obtain ⟨cs, hcs⟩ : ∃ cs, ps[j]? = some cs := ⟨ps[j]'(by have := hp.1; omega), by simp [show j < ps.length by have := hp.1; omega]⟩
  have hpv : (pv ps)[j]? = some (.str (sx cs)) := by unfold pv; rw [List.getElem?_map, hcs]; rfl
  have hmem := List.mem_of_getElem? hcs
  by_cases c0 : m.fmod 6 = 0
  · rw [if_pos c0]
    exact fin_keep (h .any fun n => .any)
  rw [if_neg c0]
  by_cases c5 : m.fmod 6 = 5
  · rw [if_pos c5]
    exact fin_keep (h .any fun n => .any)
  rw [if_neg c5, hj]
  by_cases c1 : m.fmod 6 = 1
  · rw [if_pos c1]
    refine ⟨cdv 6 (by decide) (by decide), hu.sub (L2.atI_nat hpv) ?_⟩
    exact fin_keep (h (.name cs) fun n => .name hmem)
  rw [if_neg c1]
  by_cases c2 : m.fmod 6 = 2
  · rw [if_pos c2]
    refine ⟨cdv 6 (by decide) (by decide), hu.sub (L2.atI_nat hpv) ?_⟩
    exact fin_keep (h (.mark cs) fun n => .mark hmem)
  rw [if_neg c2]
  refine ⟨cdv 6 (by decide) (by decide), cdv 36 (by decide) (by decide), ?_⟩
  have big := fm c (10 ^ 30) (by decide)
  have f1152 := fd0 (c := m) (m := 1152) m0 (by decide)
  refine seq_cut (call_mono _ _) (fun Γ S' => S = S' ∧ ∃ f e : Int, 0 ≤ f ∧ 0 ≤ e ∧ Γ = [some (.int c), some (.int w), some u, some (.int m), some (.int (m.fmod 6)), some (.int f), some (.int e)]) ?_ ?_
  · walk_at "am"
    refine ⟨cdv 144 (by decide) (by decide), ?_⟩
    split
    · refine ⟨c30, by decide, cdv 1152 (by decide) (by decide), ?_⟩
      first | exact ⟨rfl, ⟨_, _, big.1, f1152, rfl⟩⟩ | exact ⟨_, _, big.1, f1152, rfl⟩
    · first | exact ⟨rfl, ⟨_, _, a6.1, a36.1, rfl⟩⟩ | exact ⟨_, _, a6.1, a36.1, rfl⟩
  rintro Γ S' ⟨rfl, f, e, f0, e0, rfl⟩
  refine seq_cut (call_mono _ _) (fun Γ S' => S = S' ∧ ∃ f e : Int, 0 ≤ f ∧ 0 ≤ e ∧ Γ = [some (.int c), some (.int w), some u, some (.int m), some (.int (m.fmod 6)), some (.int f), some (.int e)]) ?_ ?_
  · walk_at "am"
    refine ⟨cdv 144 (by decide) (by decide), ?_⟩
    split
    · refine ⟨c30, by decide, ?_⟩
      first | exact ⟨rfl, ⟨_, _, f0, big.1, rfl⟩⟩ | exact ⟨_, _, f0, big.1, rfl⟩
    · first | exact ⟨rfl, ⟨_, _, f0, e0, rfl⟩⟩ | exact ⟨_, _, f0, e0, rfl⟩
  rintro Γ S' ⟨rfl, f, e, f0, e0, rfl⟩
  walk_at "am"
  have k2 := fm (m.fmod 6) 2 (by decide)
  by_cases hz : (m.fmod 6).fmod 2 = 0
  · rw [hz]
    refine ⟨.str "front", rfl, ?_⟩
    exact fin_val rfl (h (.placed false f e) fun n => .placed false f0 e0)
  · rw [show (m.fmod 6).fmod 2 = 1 by omega]
    refine ⟨.str "back", rfl, ?_⟩
    exact fin_val rfl (h (.placed true f e) fun n => .placed true f0 e0)
end
section
variable {T : Tab} (t : TrT T)
include t
theorem trait_ok : ∀ (dp k : Nat) (c w : Int), Cb c → (w.natAbs + 100 * dp ≤ 19000) → ∀ {ps : List (List Nat)}, Pool ps → ∀ {u : Va} {S : Sto} {P : PV} {E : PX}, LV S u (pv ps) → (∀ tr, TrP ps dp tr → P (told tr) S) → call T (k + dp + 3) "_law_trait" [.int c, .int w, u, .int dp] S P E := by
  intro dp
  induction dp with
  | zero =>
    intro k c w hc hw ps hp u S P E hu h
    refine call_def t.trait rfl ?_
    unfold AN.f_l_trait
    walk_at "am"
    refine mix_ok t.toNmT _ c _ hc (by omega) fun m m0 m1 => ?_
    walk_at "am"
    refine plain_ok t.toPlT _ c w hc (by omega) hp hu fun tr htr => ?_
    exact fin_keep (h tr (htr 0))
  | succ dp ih =>
    intro k c w hc hw ps hp u S P E hu h
    refine call_def t.trait rfl ?_
    unfold AN.f_l_trait
    walk_at "am"
    refine mix_ok t.toNmT _ c _ hc (by omega) fun m m0 m1 => ?_
    walk_at "am"
    rw [if_neg (by omega)]
    have q4 := fm (m.fdiv 4) 4 (by decide)
    have ed : ((dp + 1 : Nat) : Int) - 1 = (dp : Nat) := by omega
    split
    · refine plain_ok t.toPlT _ c w hc (by omega) hp hu fun tr htr => ?_
      exact fin_keep (h tr (htr _))
    split
    · rw [ed]
      refine ih k c (w + 7) hc (by omega) hp hu fun tr htr => ?_
      exact fin_keep (h (.not tr) (.not htr))
    refine ⟨cdv 4 (by decide) (by decide), by omega, by omega, ?_⟩
    refine cpL_inv (call_mono _ _) (fun i acc => ∃ ts : List Tr, ts.length = i ∧ (∀ t ∈ ts, TrP ps dp t) ∧ acc = tolds ts) (fun acc => trivial) ⟨[], rfl, by simp, rfl⟩ ?_ ?_
    · rintro i x acc hx ⟨ts, h1, h2, rfl⟩
      obtain ⟨hi, rfl⟩ := rangeV_get hx
      refine ⟨_, rfl, ?_⟩
      walk_at "am"
      refine ⟨by have l1 : (19 : Int).natAbs.log2 ≤ 5 := lgl (by decide); have l2 : ((0 : Int) + (i : Nat)).natAbs.log2 ≤ 4 := lgl (by omega); unfold CMulA; omega, ?_⟩
      rw [ed]
      refine ih k c _ hc (by omega) hp (hu.more _) fun tr htr => ?_
      refine ⟨rfl, by rw [tolds_len]; omega, ts ++ [tr], by rw [List.length_append, h1]; rfl, fun y hy => ?_, by rw [tolds_app]; rfl⟩
      rcases List.mem_append.mp hy with z | z
      · exact h2 y z
      · rw [List.mem_singleton.mp z]; exact htr
    rintro acc ⟨ts, h1, h2, rfl⟩
    rw [rangeV_len] at h1
    walk_at "am"
    refine fin_val ?_ (h (.one ts) (.one h2 (by omega)))
    exact pl_told (.one ts)
end
end NM
end

section
set_option linter.all false
set_option maxRecDepth 100000
set_option maxHeartbeats 4000000
open PySem
namespace Hd
open AM
def f_is_name : Fn := ⟨["thing"], ["thing", "sign"],
  (.cons (.ite (.or (.cons (.not (.val (.isi (.var 0) .str))) (.one (.not (.val (.chain .le .le (.int 1) (.len (.var 0)) (.int 8))))))) (.cons (.ret (.bl false))
  .nil) .nil)
  (.cons (.for_ (.name 1) (.seq (.var 0)) (.cons (.ite (.val (.cmp .notin (.var 1) (.glob "LETTERS"))) (.cons (.ret (.bl false))
  .nil) .nil)
  .nil))
  (.cons (.ret (.bl true))
  .nil)))⟩
def f_divisor : Fn := ⟨["one", "other"], ["one", "other", "rest"],
  (.cons (.set 0 (.abs (.var 0)))
  (.cons (.set 1 (.abs (.var 1)))
  (.cons (.whil (.val (.cmp .ne (.var 1) (.int 0))) (.cons (.set 2 (.bin .mod (.var 0) (.var 1)))
  (.cons (.set 0 (.var 1))
  (.cons (.set 1 (.var 2))
  .nil))))
  (.cons (.ret (.var 0))
  .nil))))⟩
def f_fraction : Fn := ⟨["top", "bottom"], ["top", "bottom", "both"],
  (.cons (.ite (.val (.cmp .eq (.var 1) (.int 0))) (.cons (.raise "NoFraction")
  .nil) .nil)
  (.cons (.set 2 (.call "divisor" (.cons (.var 0) (.cons (.var 1) .nil))))
  (.cons (.ite (.val (.cmp .lt (.var 1) (.int 0))) (.cons (.set 2 (.neg (.var 2)))
  .nil) .nil)
  (.cons (.ret (.tup (.cons (.bin .fdiv (.var 0) (.var 2)) (.cons (.bin .fdiv (.var 1) (.var 2)) .nil))))
  .nil))))⟩
def f_read_whole : Fn := ⟨["text"], ["text", "sign"],
  (.cons (.ite (.or (.cons (.not (.val (.chain .le .le (.int 1) (.len (.var 0)) (.int 30)))) (.one (.and (.cons (.val (.cmp .eq (.sub (.var 0) (.int 0)) (.str "0"))) (.one (.val (.cmp .gt (.len (.var 0)) (.int 1))))))))) (.cons (.raise "NoText")
  .nil) .nil)
  (.cons (.for_ (.name 1) (.seq (.var 0)) (.cons (.ite (.val (.cmp .notin (.var 1) (.glob "FIGURES"))) (.cons (.raise "NoText")
  .nil) .nil)
  .nil))
  (.cons (.ret (.blt .int (.cons (.var 0) .nil)))
  .nil)))⟩
def f_read_share : Fn := ⟨["text"], ["text", "top", "line", "bottom", "pair"],
  (.cons (.asg (.tup (.cons (.name 1) (.cons (.name 2) (.cons (.name 3) .nil)))) (.mth .partition (.var 0) (.cons (.str "/") .nil)))
  (.cons (.ite (.val (.cmp .eq (.var 2) (.str ""))) (.cons (.ret (.tup (.cons (.call "read_whole" (.cons (.var 1) .nil)) (.cons (.int 1) .nil))))
  .nil) .nil)
  (.cons (.set 4 (.tup (.cons (.call "read_whole" (.cons (.var 1) .nil)) (.cons (.call "read_whole" (.cons (.var 3) .nil)) .nil))))
  (.cons (.ite (.val (.cmp .lt (.sub (.var 4) (.int 1)) (.int 2))) (.cons (.raise "NoText")
  .nil) .nil)
  (.cons (.ret (.var 4))
  .nil)))))⟩
def f_show_share : Fn := ⟨["top", "bottom"], ["top", "bottom"],
  (.cons (.ite (.val (.cmp .eq (.var 1) (.int 1))) (.cons (.ret (.blt .str (.cons (.var 0) .nil)))
  .nil) .nil)
  (.cons (.ret (.bin .add (.bin .add (.blt .str (.cons (.var 0) .nil)) (.str "/")) (.blt .str (.cons (.var 1) .nil))))
  .nil))⟩
def f_show_fraction : Fn := ⟨["one"], ["one"],
  (.cons (.ret (.call "show_share" (.cons (.sub (.var 0) (.int 0)) (.cons (.sub (.var 0) (.int 1)) .nil))))
  .nil)⟩
def f_read_fraction : Fn := ⟨["text"], ["text", "pair"],
  (.cons (.set 1 (.call "read_share" (.cons (.var 0) .nil)))
  (.cons (.ite (.val (.cmp .ne (.call "fraction" (.cons (.sub (.var 1) (.int 0)) (.cons (.sub (.var 1) (.int 1)) .nil))) (.var 1))) (.cons (.raise "NoText")
  .nil) .nil)
  (.cons (.ret (.var 1))
  .nil)))⟩
def f_show_value : Fn := ⟨["value"], ["value", "head"],
  (.cons (.set 1 (.sub (.var 0) (.int 0)))
  (.cons (.ite (.or (.cons (.val (.cmp .eq (.var 1) (.str "hand"))) (.one (.val (.cmp .eq (.var 1) (.str "start")))))) (.cons (.ret (.var 1))
  .nil) .nil)
  (.cons (.ite (.val (.cmp .eq (.var 1) (.str "word"))) (.cons (.ret (.sub (.var 0) (.int 1)))
  .nil) .nil)
  (.cons (.ite (.val (.cmp .eq (.var 1) (.str "of"))) (.cons (.ret (.bin .add (.bin .add (.call "show_share" (.cons (.sub (.var 0) (.int 2)) (.cons (.sub (.var 0) (.int 3)) .nil))) (.str " of ")) (.sub (.var 0) (.int 1))))
  .nil) .nil)
  (.cons (.ite (.val (.cmp .eq (.var 1) (.str "number"))) (.cons (.ret (.call "show_share" (.cons (.sub (.var 0) (.int 1)) (.cons (.sub (.var 0) (.int 2)) .nil))))
  .nil) .nil)
  (.cons (.ret (.bin .add (.bin .add (.call "show_share" (.cons (.sub (.var 0) (.int 1)) (.cons (.sub (.var 0) (.int 2)) .nil))) (.str " ")) (.var 1)))
  .nil))))))⟩
def f_read_value : Fn := ⟨["text"], ["text", "words", "top", "bottom"],
  (.cons (.ite (.or (.cons (.val (.cmp .eq (.var 0) (.str "hand"))) (.one (.val (.cmp .eq (.var 0) (.str "start")))))) (.cons (.ret (.tup (.cons (.var 0) .nil)))
  .nil) .nil)
  (.cons (.ite (.val (.call "is_name" (.cons (.var 0) .nil))) (.cons (.ret (.tup (.cons (.str "word") (.cons (.var 0) .nil))))
  .nil) .nil)
  (.cons (.set 1 (.mth .split (.var 0) (.cons (.str " ") .nil)))
  (.cons (.asg (.tup (.cons (.name 2) (.cons (.name 3) .nil))) (.call "read_share" (.cons (.sub (.var 1) (.int 0)) .nil)))
  (.cons (.ite (.val (.cmp .eq (.len (.var 1)) (.int 1))) (.cons (.ret (.tup (.cons (.str "number") (.cons (.var 2) (.cons (.var 3) .nil)))))
  .nil) .nil)
  (.cons (.ite (.and (.cons (.val (.cmp .eq (.len (.var 1)) (.int 2))) (.one (.val (.cmp .isin (.sub (.var 1) (.int 1)) (.tup (.cons (.str "part") (.cons (.str "times") .nil)))))))) (.cons (.ret (.tup (.cons (.sub (.var 1) (.int 1)) (.cons (.var 2) (.cons (.var 3) .nil)))))
  .nil) .nil)
  (.cons (.ite (.and (.cons (.val (.cmp .eq (.len (.var 1)) (.int 3))) (.cons (.val (.cmp .eq (.sub (.var 1) (.int 1)) (.str "of"))) (.one (.val (.cmp .isin (.sub (.var 1) (.int 2)) (.glob "NUMBERS"))))))) (.cons (.ret (.tup (.cons (.str "of") (.cons (.sub (.var 1) (.int 2)) (.cons (.var 2) (.cons (.var 3) .nil))))))
  .nil) .nil)
  (.cons (.raise "NoText")
  .nil))))))))⟩
def f_l_cell : Fn := ⟨["_law_script", "_law_k"], ["_law_script", "_law_k"],
  (.cons (.ite (.val (.cmp .lt (.var 1) (.len (.var 0)))) (.cons (.ret (.sub (.var 0) (.var 1)))
  .nil) .nil)
  (.cons (.ret (.int 0))
  .nil))⟩
def f_l_mix : Fn := ⟨["_law_cell_here", "_law_way"], ["_law_cell_here", "_law_way", "_law_first"],
  (.cons (.set 2 (.bin .mod (.bin .add (.bin .mul (.var 0) (.int 48271)) (.bin .mul (.var 1) (.int 7919))) (.int 2147483647)))
  (.cons (.ret (.bin .mod (.bin .mul (.var 2) (.bin .add (.int 16807) (.bin .mul (.int 2) (.var 1)))) (.int 1000003)))
  .nil))⟩
def f_l_name : Fn := ⟨["_law_cell_here", "_law_way"], ["_law_cell_here", "_law_way", "_law_letters", "_law_size", "_law_k"],
  (.cons (.set 2 (.str "abcdefghijklmnopqrstuvwxyz"))
  (.cons (.set 3 (.bin .add (.int 1) (.bin .mod (.call "_law_mix" (.cons (.var 0) (.cons (.bin .add (.var 1) (.int 3)) .nil))) (.int 8))))
  (.cons (.ret (.mth .join (.str "") (.cons (.comp [4] (.sub (.var 2) (.bin .mod (.call "_law_mix" (.cons (.var 0) (.cons (.bin .add (.var 1) (.bin .mul (.int 5) (.var 4))) .nil))) (.int 26))) (.name 4) (.range1 (.var 3)) .none) .nil)))
  .nil)))⟩
def f_l_whole : Fn := ⟨["_law_found"], ["_law_found"],
  (.cons (.ret (.tst (.and (.cons (.val (.isi (.var 0) .int)) (.one (.not (.val (.isi (.var 0) .bool))))))))
  .nil)⟩
def f_l_props : Fn := ⟨[], ["_law_some"],
  (.cons (.set 0 (.lst (.cons (.str "ink") (.cons (.str "size") (.cons (.str "wide") (.cons (.str "least") (.cons (.str "most") (.cons (.str "grow") (.cons (.str "shrink") (.cons (.str "gap") (.cons (.str "pad") (.cons (.str "tall") .nil))))))))))))
  (.cons (.ret (.bin .add (.var 0) (.lst (.cons (.str "flow") (.cons (.str "spread") (.cons (.str "stand") .nil))))))
  .nil))⟩
def f_l_share_text : Fn := ⟨["_law_top", "_law_bottom"], ["_law_top", "_law_bottom"],
  (.cons (.ite (.val (.cmp .eq (.var 1) (.int 1))) (.cons (.ret (.fmt (.var 0)))
  .nil) .nil)
  (.cons (.ret (.js (.cons (.fmt (.var 0)) (.cons (.str "/") (.cons (.fmt (.var 1)) .nil)))))
  .nil))⟩
def f_l_value_text : Fn := ⟨["_law_value"], ["_law_value", "_law_text"],
  (.cons (.ite (.val (.cmp .isin (.sub (.var 0) (.int 0)) (.tup (.cons (.str "hand") (.cons (.str "start") .nil))))) (.cons (.ret (.sub (.var 0) (.int 0)))
  .nil) .nil)
  (.cons (.ite (.val (.cmp .eq (.sub (.var 0) (.int 0)) (.str "word"))) (.cons (.ret (.sub (.var 0) (.int 1)))
  .nil) .nil)
  (.cons (.ite (.val (.cmp .eq (.sub (.var 0) (.int 0)) (.str "of"))) (.cons (.ret (.bin .add (.bin .add (.call "_law_share_text" (.cons (.sub (.var 0) (.int 2)) (.cons (.sub (.var 0) (.int 3)) .nil))) (.str " of ")) (.sub (.var 0) (.int 1))))
  .nil) .nil)
  (.cons (.set 1 (.call "_law_share_text" (.cons (.sub (.var 0) (.int 1)) (.cons (.sub (.var 0) (.int 2)) .nil))))
  (.cons (.ite (.val (.cmp .eq (.sub (.var 0) (.int 0)) (.str "number"))) (.cons (.ret (.var 1))
  .nil) .nil)
  (.cons (.ret (.bin .add (.bin .add (.var 1) (.str " ")) (.sub (.var 0) (.int 0))))
  .nil))))))⟩
def f_l_noted : Fn := ⟨["_law_prop", "_law_cell_here", "_law_other", "_law_way"], ["_law_prop", "_law_cell_here", "_law_other", "_law_way", "_law_draw", "_law_word", "_law_words", "_law_pair"],
  (.cons (.set 4 (.call "_law_mix" (.cons (.var 1) (.cons (.var 3) .nil))))
  (.cons (.ite (.val (.cmp .lt (.bin .mod (.var 4) (.int 7)) (.int 2))) (.cons (.ret (.tup (.cons (.sub (.lst (.cons (.str "hand") (.cons (.str "start") .nil))) (.bin .mod (.var 4) (.int 2))) .nil)))
  .nil) .nil)
  (.cons (.ite (.val (.cmp .eq (.var 0) (.str "ink"))) (.cons (.set 5 (.call "_law_name" (.cons (.var 2) (.cons (.bin .add (.var 3) (.int 1)) .nil))))
  (.cons (.ret (.tup (.cons (.str "word") (.cons (.ite (.val (.cmp .isin (.var 5) (.tup (.cons (.str "hand") (.cons (.str "start") .nil))))) (.str "of") (.var 5)) .nil))))
  .nil)) .nil)
  (.cons (.set 6 (.dsp (.cons (.str "wide") (.cons (.lst (.cons (.str "auto") .nil)) (.cons (.str "most") (.cons (.lst (.cons (.str "none") .nil)) (.cons (.str "flow") (.cons (.lst (.cons (.str "stack") (.cons (.str "row") (.cons (.str "wrap") (.cons (.str "fair") .nil))))) .nil))))))))
  (.cons (.setSub (.var 6) (.str "spread") (.lst (.cons (.str "left") (.cons (.str "middle") (.cons (.str "right") (.cons (.str "apart") .nil))))))
  (.cons (.setSub (.var 6) (.str "stand") (.lst (.cons (.str "top") (.cons (.str "middle") (.cons (.str "bottom") (.cons (.str "full") .nil))))))
  (.cons (.ite (.or (.cons (.val (.cmp .isin (.var 0) (.tup (.cons (.str "flow") (.cons (.str "spread") (.cons (.str "stand") .nil)))))) (.one (.and (.cons (.val (.cmp .isin (.var 0) (.var 6))) (.one (.val (.cmp .eq (.bin .mod (.var 4) (.int 7)) (.int 2))))))))) (.cons (.ret (.tup (.cons (.str "word") (.cons (.sub (.sub (.var 6) (.var 0)) (.bin .mod (.bin .fdiv (.var 4) (.int 7)) (.len (.sub (.var 6) (.var 0))))) .nil))))
  .nil) .nil)
  (.cons (.set 7 (.tup (.cons (.bin .mod (.var 1) (.bin .pow (.int 10) (.int 30))) (.cons (.bin .add (.int 1) (.bin .mod (.var 2) (.bin .sub (.bin .pow (.int 10) (.int 30)) (.int 1)))) .nil))))
  (.cons (.ite (.val (.cmp .eq (.bin .mod (.bin .fdiv (.var 4) (.int 7)) (.int 3)) (.int 0))) (.cons (.set 7 (.tup (.cons (.bin .mod (.bin .fdiv (.var 4) (.int 21)) (.int 12)) (.cons (.bin .add (.int 1) (.bin .mod (.bin .fdiv (.var 4) (.int 252)) (.int 4))) .nil))))
  .nil) .nil)
  (.cons (.ite (.val (.cmp .eq (.bin .mod (.var 4) (.int 7)) (.int 3))) (.cons (.ret (.bin .add (.tup (.cons (.str "of") (.cons (.sub (.call "_law_props" .nil) (.bin .add (.int 1) (.bin .mod (.bin .fdiv (.var 4) (.int 21)) (.int 9)))) .nil))) (.var 7)))
  .nil) .nil)
  (.cons (.ite (.and (.cons (.val (.cmp .eq (.bin .mod (.var 4) (.int 7)) (.int 4))) (.one (.val (.cmp .isin (.var 0) (.tup (.cons (.str "wide") (.cons (.str "least") (.cons (.str "most") .nil))))))))) (.cons (.ret (.bin .add (.tup (.cons (.str "part") .nil)) (.var 7)))
  .nil) .nil)
  (.cons (.ret (.bin .add (.tup (.cons (.sub (.lst (.cons (.str "number") (.cons (.str "times") .nil))) (.bin .mod (.var 4) (.int 2))) .nil)) (.var 7)))
  .nil))))))))))))⟩
def f_l_divisor : Fn := ⟨["_law_one", "_law_other"], ["_law_one", "_law_other"],
  (.cons (.whil (.val (.cmp .ne (.var 1) (.int 0))) (.cons (.par 0 1 (.var 1) (.bin .mod (.var 0) (.var 1)))
  .nil))
  (.cons (.ret (.var 0))
  .nil))⟩
def f_l_lowest : Fn := ⟨["_law_top", "_law_bottom"], ["_law_top", "_law_bottom", "_law_both"],
  (.cons (.set 2 (.call "_law_divisor" (.cons (.var 0) (.cons (.var 1) .nil))))
  (.cons (.ret (.tup (.cons (.bin .fdiv (.var 0) (.var 2)) (.cons (.bin .fdiv (.var 1) (.var 2)) .nil))))
  .nil))⟩
def f_l_alike : Fn := ⟨["_law_found", "_law_due"], ["_law_found", "_law_due", "_law_k"],
  (.cons (.ite (.or (.cons (.not (.val (.isi (.var 0) .tuple))) (.one (.val (.cmp .ne (.len (.var 0)) (.len (.var 1))))))) (.cons (.ret (.bl false))
  .nil) .nil)
  (.cons (.for_ (.name 2) (.range1 (.len (.var 1))) (.cons (.ite (.and (.cons (.val (.isi (.sub (.var 1) (.var 2)) .str)) (.one (.not (.val (.isi (.sub (.var 0) (.var 2)) .str)))))) (.cons (.ret (.bl false))
  .nil) .nil)
  (.cons (.ite (.and (.cons (.not (.val (.isi (.sub (.var 1) (.var 2)) .str))) (.one (.not (.val (.call "_law_whole" (.cons (.sub (.var 0) (.var 2)) .nil))))))) (.cons (.ret (.bl false))
  .nil) .nil)
  .nil)))
  (.cons (.ret (.cmp .eq (.var 0) (.var 1)))
  .nil)))⟩
def f_law : Fn := ⟨["_law_script"], ["_law_script", "_law_top", "_law_bottom", "_law_one", "_law_text", "_law_great", "_law_k", "_law_cell_here", "_law_prop", "_law_value", "_law_told"],
  (.cons (.set 1 (.bin .mod (.call "_law_cell" (.cons (.var 0) (.cons (.int 0) .nil))) (.bin .pow (.int 10) (.int 30))))
  (.cons (.set 2 (.bin .add (.int 1) (.bin .mod (.call "_law_cell" (.cons (.var 0) (.cons (.int 1) .nil))) (.bin .sub (.bin .pow (.int 10) (.int 30)) (.int 1)))))
  (.cons (.ite (.val (.cmp .eq (.bin .mod (.call "_law_cell" (.cons (.var 0) (.cons (.int 1) .nil))) (.int 4)) (.int 2))) (.cons (.set 1 (.bin .mod (.var 1) (.int 40)))
  (.cons (.set 2 (.bin .add (.int 1) (.bin .mod (.bin .fdiv (.call "_law_cell" (.cons (.var 0) (.cons (.int 1) .nil))) (.int 4)) (.int 12))))
  .nil)) .nil)
  (.cons (.set 3 (.call "_law_lowest" (.cons (.var 1) (.cons (.var 2) .nil))))
  (.cons (.set 4 (.call "_law_share_text" (.cons (.sub (.var 3) (.int 0)) (.cons (.sub (.var 3) (.int 1)) .nil))))
  (.cons (.ite (.or (.cons (.not (.val (.isi (.call "show_fraction" (.cons (.var 3) .nil)) .str))) (.one (.val (.cmp .ne (.call "show_fraction" (.cons (.var 3) .nil)) (.var 4)))))) (.cons (.ret (.bl false))
  .nil) .nil)
  (.cons (.ite (.not (.val (.call "_law_alike" (.cons (.call "read_fraction" (.cons (.var 4) .nil)) (.cons (.var 3) .nil))))) (.cons (.ret (.bl false))
  .nil) .nil)
  (.cons (.set 5 (.call "_law_lowest" (.cons (.bin .add (.bin .mul (.bin .mul (.bin .mul (.var 1) (.bin .pow (.int 10) (.int 64))) (.bin .pow (.int 10) (.int 64))) (.bin .pow (.int 10) (.int 64))) (.int 1)) (.cons (.var 2) .nil))))
  (.cons (.set 4 (.call "_law_share_text" (.cons (.sub (.var 5) (.int 0)) (.cons (.sub (.var 5) (.int 1)) .nil))))
  (.cons (.ite (.or (.cons (.val (.cmp .ne (.call "show_fraction" (.cons (.var 5) .nil)) (.var 4))) (.one (.val (.cmp .ne (.call "show_value" (.cons (.bin .add (.tup (.cons (.str "number") .nil)) (.var 5)) .nil)) (.var 4)))))) (.cons (.ret (.bl false))
  .nil) .nil)
  (.cons (.ite (.val (.cmp .ne (.call "show_value" (.cons (.bin .add (.tup (.cons (.str "part") .nil)) (.var 5)) .nil)) (.bin .add (.var 4) (.str " part")))) (.cons (.ret (.bl false))
  .nil) .nil)
  (.cons (.for_ (.tup (.cons (.name 6) (.cons (.name 7) .nil))) (.enum (.slice (.var 0) (.some (.int 2)) (.some (.int 22)))) (.cons (.set 8 (.sub (.call "_law_props" .nil) (.bin .mod (.call "_law_mix" (.cons (.var 7) (.cons (.var 6) .nil))) (.int 13))))
  (.cons (.set 9 (.call "_law_noted" (.cons (.var 8) (.cons (.var 7) (.cons (.call "_law_cell" (.cons (.var 0) (.cons (.bin .add (.int 1) (.var 6)) .nil))) (.cons (.bin .add (.int 40) (.var 6)) .nil))))))
  (.cons (.set 4 (.call "_law_value_text" (.cons (.var 9) .nil)))
  (.cons (.set 10 (.call "show_value" (.cons (.var 9) .nil)))
  (.cons (.ite (.or (.cons (.not (.val (.isi (.var 10) .str))) (.cons (.val (.cmp .ne (.var 10) (.var 4))) (.one (.not (.val (.call "_law_alike" (.cons (.call "read_value" (.cons (.var 4) .nil)) (.cons (.var 9) .nil))))))))) (.cons (.ret (.bl false))
  .nil) .nil)
  .nil))))))
  (.cons (.ret (.bl true))
  .nil)))))))))))))⟩
end Hd
open Hd (f_law)
namespace Hd
open PySem AM
def T : Tab := ⟨[("is_name", f_is_name), ("divisor", f_divisor), ("fraction", f_fraction), ("read_whole", f_read_whole), ("read_share", f_read_share), ("show_share", f_show_share), ("show_fraction", f_show_fraction), ("read_fraction", f_read_fraction), ("show_value", f_show_value), ("read_value", f_read_value), ("_law_cell", f_l_cell), ("_law_mix", f_l_mix), ("_law_name", f_l_name), ("_law_whole", f_l_whole), ("_law_props", f_l_props), ("_law_share_text", f_l_share_text), ("_law_value_text", f_l_value_text), ("_law_noted", f_l_noted), ("_law_divisor", f_l_divisor), ("_law_lowest", f_l_lowest), ("_law_alike", f_l_alike), ("law", f_law)], [], [], [], [("LETTERS", .str "abcdefghijklmnopqrstuvwxyz"), ("NUMBERS", .tup [.str "size", .str "wide", .str "least", .str "most", .str "grow", .str "shrink", .str "gap", .str "pad", .str "tall"]), ("FIGURES", .str "0123456789")], [], [], [], [], []⟩
end Hd
end

section
set_option linter.all false
set_option maxRecDepth 100000
set_option maxHeartbeats 1000000
/-! Fractions: the defs of shares.py keep their promises. -/
open PySem
namespace AM
def f_divisor : Fn := ⟨["one", "other"], ["one", "other", "rest"],
  (.cons (.set 0 (.abs (.var 0)))
  (.cons (.set 1 (.abs (.var 1)))
  (.cons (.whil (.val (.cmp .ne (.var 1) (.int 0))) (.cons (.set 2 (.bin .mod (.var 0) (.var 1)))
  (.cons (.set 0 (.var 1))
  (.cons (.set 1 (.var 2))
  .nil))))
  (.cons (.ret (.var 0))
  .nil))))⟩
def f_fraction : Fn := ⟨["top", "bottom"], ["top", "bottom", "both"],
  (.cons (.ite (.val (.cmp .eq (.var 1) (.int 0))) (.cons (.raise "NoFraction")
  .nil) .nil)
  (.cons (.set 2 (.call "divisor" (.cons (.var 0) (.cons (.var 1) .nil))))
  (.cons (.ite (.val (.cmp .lt (.var 1) (.int 0))) (.cons (.set 2 (.neg (.var 2)))
  .nil) .nil)
  (.cons (.ret (.tup (.cons (.bin .fdiv (.var 0) (.var 2)) (.cons (.bin .fdiv (.var 1) (.var 2)) .nil))))
  .nil))))⟩
end AM
namespace FR
open PySem AM
local macro_rules | `(tactic| walk_at "am") => `(tactic| try simp only [st_set0, st_setS, iteTrue, iteFalse, iteDec, iteNDec, exSome, exBl, W_var, W_int, W_bl, W_non, W_str, W_tup, W_lst, W_bin, W_neg, W_cmp, W_isN, W_notN, W_lrev, W_maxd, W_sortk, wIsb, wNisb, W_chain, W_chain3, W_tst, W_ite, W_call, W_len, W_abs, W_isi, W_sub, WT_val, WT_not, WT_and, WT_or, WA_one, WA_cons, WO_one, WO_cons, WB_val, WB_not, WB_and, WB_or, WBA_one, WBA_cons, WBO_one, WBO_cons, WL_nil, WL_cons, WS_set, WS_ret, WS_retN, WS_pass, WS_brk, WS_cont, WS_drop, WS_ite, WS_raise, WSs_nil, Ss_set, Ss_ret, Ss_retN, Ss_pass, Ss_brk, Ss_cont, Ss_drop, Ss_raise, Ss_ite_ret, Ss_ite_retN, Ss_ite_raise, Ss_ite_cont, Ss_ite_brk, Ss_ite_last, gt_0, gt_S, wAdd_int, wSub_int, wMul_int, wMul_rep, wMul_str, wDiv_int, wMod_int, wPow_int, wAdd_str, wNeg_int, wAbs_int, wLt_int, wLe_int, wGt_int, wGe_int, wEq_int, wNe_int, wEq_bl, wNe_bl, wEq_str, wNe_str, wLen_tup, wLen_lst, tru_bl, tru_int, ty_int_int, ty_int_bool, ty_int_str, ty_int_tuple, ty_int_list, ty_int_dict, ty_bl_int, ty_bl_bool, ty_bl_str, ty_bl_tuple, ty_bl_list, ty_bl_dict, ty_str_int, ty_str_bool, ty_str_str, ty_str_tuple, ty_str_list, ty_str_dict, ty_tup_int, ty_tup_bool, ty_tup_str, ty_tup_tuple, ty_tup_list, ty_tup_dict, ty_lst_int, ty_lst_bool, ty_lst_str, ty_lst_tuple, ty_lst_list, ty_lst_dict, ty_dct_int, ty_dct_bool, ty_dct_str, ty_dct_tuple, ty_dct_list, ty_dct_dict, ty_non, sub_tup0, sub_tup1, sub_tup2, sub_tup3, sub_tup4, sub_tup5, sub_lst0, sub_lst1, sub_lst2, sub_lst3, sub_lst4, sub_lst5, startA, List.map_cons, List.map_nil, List.length_cons, List.length_nil, List.replicate, List.cons_append, List.nil_append, true_and, and_true, ne_eq, isNon, Bool.not_true, Bool.not_false, Bool.true_or, Bool.or_true, Bool.false_or, reduceIte, Nat.reduceAdd, Nat.zero_add, Int.cast_ofNat_Int, Int.reduceEq, Int.reduceLT, Int.reduceLE, Nat.reduceLeDiff, decide_true, decide_false, not_true_eq_false, not_false_eq_true, Nat.reduceSub, Int.reduceToNat, W_slice, W_blt, W_mth, W_comp, WOe_none, WOe_some, WI_seq, WI_keys, WI_items, WI_range1, WI_range2, WI_enum, WI_zip, WI_rev, WI_revr, WI_rangeD, WT0_none, WT0_some, Ss_asg, Ss_setSub, Ss_aug, WS_asg, WS_aug, WS_for, WS_setC, bT_name, bT_tup, bT_lst, bTs_nil, bTs_name, seq_lst, seq_tup, seq_scr, seq_str, seq_loc, en_tup, en_lst, en_scr, en_loc, lst_lst, lst_scr, lst_loc, exInt, exLoc, exLst, exLst1, exLV_lst, exLV_loc, mOk_app, mOk_pop, mOk_ext, mOk_ins, mOk_ind, mOk_join, mOk_indl, m_append, m_pop, m_extend, m_insert, m_join, b_listL, b_listT, b_listS, b_listK, b_tupL, b_tupT, b_tupK, b_max2, b_min2, b_ord, b_str, sl_lst, sl_loc, sl_scr, sl_tupE, sl_strE, cat_lst, cat_loc, cat_tup, wLen_scr, wLen_loc, wLen_str, wSub_scr, wSub_loc, wSub_str, aug_add, aug_sub, tru_lst, tru_tup, tru_non, ty_scr_list, sg_p0, sg_pl, ss_p0, ss_pl, ob_set0, ob_set1, ob_set2, ob_set3, ob_g0, ob_g1, ob_g2, ob_g3, List.append_assoc, List.length_append, List.nil_append, Nat.add_zero, Nat.add_assoc, Int.reduceNeg, wipeA, orc_run, orc_glob, orc_init, orc_isa, orc_gdct, W_isc, W_isE, W_isEt, orc_xk, m_upper, m_partition, m_split, m_endswith, m_find, mOk_upper, mOk_partition, mOk_split, mOk_endswith, mOk_find, b_intB, W_glob, W_gget, W_fld, W_mcall, W_make, W_make0, W_dsp, Ss_setFld, subO_l, subO_d, subO_k, lenO_l, lenO_d, listO_l, listO_d, putO_l, keyV_int, keyV_str, wIn_str, wNotin_str, mapSome, at_0, at_1, at_2, at_3, at_4, at_5, ix_1_0, ix_2_0, ix_2_1, ix_3_0, ix_3_1, ix_3_2, ix_4_0, ix_4_1, ix_4_2, ix_4_3, va_s0, va_s1, va_s2, va_s3])
local macro_rules | `(tactic| walk_at "if") => `(tactic| (try simp only []); rw [Ss_ite]; simp only [st_set0, st_setS, iteTrue, iteFalse, iteDec, iteNDec, exSome, exBl, W_var, W_int, W_bl, W_non, W_str, W_tup, W_lst, W_bin, W_neg, W_cmp, W_isN, W_notN, W_lrev, W_maxd, W_sortk, wIsb, wNisb, W_chain, W_chain3, W_tst, W_ite, W_call, W_len, W_abs, W_isi, W_sub, WT_val, WT_not, WT_and, WT_or, WA_one, WA_cons, WO_one, WO_cons, WB_val, WB_not, WB_and, WB_or, WBA_one, WBA_cons, WBO_one, WBO_cons, WL_nil, WL_cons, WS_set, WS_ret, WS_retN, WS_pass, WS_brk, WS_cont, WS_drop, WS_ite, WS_raise, WSs_nil, Ss_set, Ss_ret, Ss_retN, Ss_pass, Ss_brk, Ss_cont, Ss_drop, Ss_raise, Ss_ite_ret, Ss_ite_retN, Ss_ite_raise, Ss_ite_cont, Ss_ite_brk, Ss_ite_last, gt_0, gt_S, wAdd_int, wSub_int, wMul_int, wMul_rep, wMul_str, wDiv_int, wMod_int, wPow_int, wAdd_str, wNeg_int, wAbs_int, wLt_int, wLe_int, wGt_int, wGe_int, wEq_int, wNe_int, wEq_bl, wNe_bl, wEq_str, wNe_str, wLen_tup, wLen_lst, tru_bl, tru_int, ty_int_int, ty_int_bool, ty_int_str, ty_int_tuple, ty_int_list, ty_int_dict, ty_bl_int, ty_bl_bool, ty_bl_str, ty_bl_tuple, ty_bl_list, ty_bl_dict, ty_str_int, ty_str_bool, ty_str_str, ty_str_tuple, ty_str_list, ty_str_dict, ty_tup_int, ty_tup_bool, ty_tup_str, ty_tup_tuple, ty_tup_list, ty_tup_dict, ty_lst_int, ty_lst_bool, ty_lst_str, ty_lst_tuple, ty_lst_list, ty_lst_dict, ty_dct_int, ty_dct_bool, ty_dct_str, ty_dct_tuple, ty_dct_list, ty_dct_dict, ty_non, sub_tup0, sub_tup1, sub_tup2, sub_tup3, sub_tup4, sub_tup5, sub_lst0, sub_lst1, sub_lst2, sub_lst3, sub_lst4, sub_lst5, startA, List.map_cons, List.map_nil, List.length_cons, List.length_nil, List.replicate, List.cons_append, List.nil_append, true_and, and_true, ne_eq, isNon, Bool.not_true, Bool.not_false, Bool.true_or, Bool.or_true, Bool.false_or, reduceIte, Nat.reduceAdd, Nat.zero_add, Int.cast_ofNat_Int, Int.reduceEq, Int.reduceLT, Int.reduceLE, Nat.reduceLeDiff, decide_true, decide_false, not_true_eq_false, not_false_eq_true, Nat.reduceSub, Int.reduceToNat, W_slice, W_blt, W_mth, W_comp, WOe_none, WOe_some, WI_seq, WI_keys, WI_items, WI_range1, WI_range2, WI_enum, WI_zip, WI_rev, WI_revr, WI_rangeD, WT0_none, WT0_some, Ss_asg, Ss_setSub, Ss_aug, WS_asg, WS_aug, WS_for, WS_setC, bT_name, bT_tup, bT_lst, bTs_nil, bTs_name, seq_lst, seq_tup, seq_scr, seq_str, seq_loc, en_tup, en_lst, en_scr, en_loc, lst_lst, lst_scr, lst_loc, exInt, exLoc, exLst, exLst1, exLV_lst, exLV_loc, mOk_app, mOk_pop, mOk_ext, mOk_ins, mOk_ind, mOk_join, mOk_indl, m_append, m_pop, m_extend, m_insert, m_join, b_listL, b_listT, b_listS, b_listK, b_tupL, b_tupT, b_tupK, b_max2, b_min2, b_ord, b_str, sl_lst, sl_loc, sl_scr, sl_tupE, sl_strE, cat_lst, cat_loc, cat_tup, wLen_scr, wLen_loc, wLen_str, wSub_scr, wSub_loc, wSub_str, aug_add, aug_sub, tru_lst, tru_tup, tru_non, ty_scr_list, sg_p0, sg_pl, ss_p0, ss_pl, ob_set0, ob_set1, ob_set2, ob_set3, ob_g0, ob_g1, ob_g2, ob_g3, List.append_assoc, List.length_append, List.nil_append, Nat.add_zero, Nat.add_assoc, Int.reduceNeg, wipeA, orc_run, orc_glob, orc_init, orc_isa, orc_gdct, W_isc, W_isE, W_isEt, orc_xk, m_upper, m_partition, m_split, m_endswith, m_find, mOk_upper, mOk_partition, mOk_split, mOk_endswith, mOk_find, b_intB, W_glob, W_gget, W_fld, W_mcall, W_make, W_make0, W_dsp, Ss_setFld, subO_l, subO_d, subO_k, lenO_l, lenO_d, listO_l, listO_d, putO_l, keyV_int, keyV_str, wIn_str, wNotin_str, mapSome, at_0, at_1, at_2, at_3, at_4, at_5, ix_1_0, ix_2_0, ix_2_1, ix_3_0, ix_3_1, ix_3_2, ix_4_0, ix_4_1, ix_4_2, ix_4_3, va_s0, va_s1, va_s2, va_s3])
/-! ### sizes -/
def B (n : Nat) (i : Int) : Prop := i.natAbs < 2 ^ n
theorem B.mono {m n : Nat} {i : Int} (h : B m i) (l : m ≤ n) : B n i := Nat.lt_of_lt_of_le h (Nat.pow_le_pow_right (by decide) l)
theorem B.mul {m n : Nat} {i j : Int} (h : B m i) (q : B n j) : B (m + n) (i * j) := by
  unfold B at *
  rw [Int.natAbs_mul, Nat.pow_add]
  exact Nat.mul_lt_mul'' h q
theorem B.add {n : Nat} {i j : Int} (h : B n i) (q : B n j) : B (n + 1) (i + j) := by
  unfold B at *
  rw [Nat.pow_succ]
  omega
theorem B.neg {n : Nat} {i : Int} (h : B n i) : B n (-i) := by
  unfold B at *
  rwa [Int.natAbs_neg]
theorem B.sub {n : Nat} {i j : Int} (h : B n i) (q : B n j) : B (n + 1) (i - j) := by
  rw [Int.sub_eq_add_neg]; exact h.add q.neg
theorem B.abs {n : Nat} {i : Int} (h : B n i) : B n (if i < 0 then -i else i) := by
  split
  · exact h.neg
  · exact h
theorem B.log {n : Nat} {i : Int} (h : B n i) (l : n ≤ 9000) : i.natAbs.log2 < 9000 := by
  by_cases h0 : i.natAbs = 0
  · rw [h0]; decide +kernel
  · exact (Nat.log2_lt h0).mpr (Nat.lt_of_lt_of_le h (Nat.pow_le_pow_right (by decide) l))
theorem B.lg {n : Nat} {i : Int} (h : B n i) : i.natAbs.log2 ≤ n := by
  by_cases h0 : i.natAbs = 0
  · rw [h0]; exact Nat.zero_le _
  · exact Nat.le_of_lt ((Nat.log2_lt h0).mpr h)
theorem B.cmul {m n : Nat} {i j : Int} (h : B m i) (q : B n j) (l : m + n ≤ 133000000) : CMulA i j := by
  have h1 := h.lg
  have h2 := q.lg
  unfold CMulA
  omega
theorem B.of_le {n : Nat} {i j : Int} (h : B n j) (l : i.natAbs ≤ j.natAbs) : B n i := Nat.lt_of_le_of_lt l h
theorem gcd_le {a b : Int} (hb : b ≠ 0) : Int.gcd a b ≤ b.natAbs := Nat.le_of_dvd (by omega) (Int.gcd_dvd_natAbs_right a b)

/-! ### divisor -/
theorem divisor_ok {T : Tab} {f : Str} {d : Fn} (hT : T f = some d) (hd : d.body = f_divisor.body) (hp : d.ps.length = 2) (hN : d.N.length = 3) (k : Nat) (a b : Int) {S : Sto} {P : PV} {E : PX} (h : P (.int (Int.gcd a b)) S) : call T (k + 1) f [.int a, .int b] S P E := by
  refine call_def hT hp.symm ?_
  rw [hd]
  unfold f_divisor
  simp only [startA_eq, hN]
  walk_at "am"
  refine wh_ix (call_mono T k) (fun (z : Int × Int × Option Va) => [some (.int z.1), some (.int z.2.1), z.2.2]) (fun z => 0 ≤ z.1 ∧ 0 ≤ z.2.1 ∧ Int.gcd z.1 z.2.1 = Int.gcd a b) (fun z => z.2.1.toNat) (if a < 0 then -a else a, if b < 0 then -b else b, none) ?_ ?_
  · refine ⟨?_, ?_, ?_⟩
    · show 0 ≤ (if a < 0 then -a else a); split <;> omega
    · show 0 ≤ (if b < 0 then -b else b); split <;> omega
    · show Int.gcd (if a < 0 then -a else a) (if b < 0 then -b else b) = _
      unfold Int.gcd
      have e : ∀ x : Int, (if x < 0 then -x else x).natAbs = x.natAbs := fun x => by split <;> simp
      rw [e, e]
  · rintro ⟨x, y, z⟩ ⟨h1, h2, h3⟩
    walk_at "am"
    simp only at h1 h2 h3
    split
    · rename_i hy
      subst hy
      refine fin_keep ?_
      have : x = ((Int.gcd a b : Nat) : Int) := by
        rw [← h3]; simp; omega
      rw [← this] at h
      exact h
    · rename_i hy
      refine ⟨hy, (y, x.fmod y, _), rfl, ⟨h2, ?_, ?_⟩, ?_⟩
      · rw [Int.fmod_eq_emod_of_nonneg x h2]; exact Int.emod_nonneg x hy
      · rw [← h3, Int.fmod_eq_emod_of_nonneg x h2]
        show Int.gcd y (x % y) = Int.gcd x y
        obtain ⟨m, rfl⟩ := Int.eq_ofNat_of_zero_le h1
        obtain ⟨n, rfl⟩ := Int.eq_ofNat_of_zero_le h2
        have e : ((m : Int) % (n : Int)) = ((m % n : Nat) : Int) := rfl
        rw [e, Int.gcd_natCast_natCast, Int.gcd_natCast_natCast, Nat.gcd_comm m n, Nat.gcd_rec n m, Nat.gcd_comm]
      · show (x.fmod y).toNat < y.toNat
        rw [Int.fmod_eq_emod_of_nonneg x h2]
        have := Int.emod_lt_of_pos x (show 0 < y by omega)
        omega
/-! ### fraction -/
def Qv (r : Rat) : Va := .tup [.int r.num, .int r.den]
theorem shape2 (a b : Int) : SeqAt.shaped (.tuple [.int a, .int b]) = true := by
  simp [SeqAt.shaped, PyData.canLay0, PyData.canLayAll0, PyData.depth, PyData.depthAll]
theorem dv_Q {S : Sto} {r : Rat} : DV S (Qv r) (.tuple [.int r.num, .int r.den]) := .tup (.cons (.int _) (.cons (.int _) .nil))
theorem dv_Q' {S : Sto} {r : Rat} {d : PyData} (h : DV S (Qv r) d) : d = .tuple [.int r.num, .int r.den] := by
  cases h with
  | tup q => cases q with
    | cons a q => cases q with
      | cons b q => cases q; cases a; cases b; rfl
theorem eqv_Q (r q : Rat) : PyData.eqv (.tuple [.int r.num, .int r.den]) (.tuple [.int q.num, .int q.den]) = decide (r = q) := by
  have e : (r = q) ↔ (r.num = q.num ∧ (r.den : Int) = (q.den : Int)) := ⟨fun h => by rw [h]; exact ⟨rfl, rfl⟩, fun h => Rat.ext h.1 (by exact_mod_cast h.2)⟩
  by_cases h : r = q
  · rw [decide_eq_true h]; subst h; simp [PyData.eqv, PyData.eqvAll]
  · rw [decide_eq_false h]
    have e2 := fun z => h (e.mpr z)
    by_cases h1 : r.num = q.num
    · have h2 : ¬ (r.den : Int) = (q.den : Int) := fun z => e2 ⟨h1, z⟩
      have h3 : ¬ r.den = q.den := fun z => h2 (by rw [z])
      simp [PyData.eqv, PyData.eqvAll, h1, h3]
      exact h2
    · simp [PyData.eqv, PyData.eqvAll, h1]
theorem eqQ {S : Sto} {P : PV} {r q : Rat} : wCmp .eq (Qv r) (Qv q) S P = P (.bl (decide (r = q))) S := by
  apply propext
  simp only [wCmp]
  constructor
  · rintro ((⟨h, _⟩ | ⟨⟨ks, ls, h, _⟩, _⟩) | ⟨d, e, h1, h2, _, _, h⟩)
    · cases h
    · rcases h with h | ⟨k, h, _⟩ <;> cases h
    · rw [dv_Q' h1, dv_Q' h2, eqv_Q] at h; exact h
  · exact fun h => .inr ⟨_, _, dv_Q, dv_Q, shape2 _ _, shape2 _ _, by rw [eqv_Q]; exact h⟩
theorem neQ {S : Sto} {P : PV} {r q : Rat} : wCmp .ne (Qv r) (Qv q) S P = P (.bl (!decide (r = q))) S := by
  apply propext
  simp only [wCmp]
  constructor
  · rintro ((⟨h, _⟩ | ⟨⟨ks, ls, h, _⟩, _⟩) | ⟨d, e, h1, h2, _, _, h⟩)
    · cases h
    · rcases h with h | ⟨k, h, _⟩ <;> cases h
    · rw [dv_Q' h1, dv_Q' h2, eqv_Q] at h; exact h
  · exact fun h => .inr ⟨_, _, dv_Q, dv_Q, shape2 _ _, shape2 _ _, by rw [eqv_Q]; exact h⟩
theorem divInt_num (a b : Int) (hb : b ≠ 0) : a.fdiv (if b < 0 then -(Int.gcd a b : Int) else (Int.gcd a b : Int)) = (Rat.divInt a b).num := by
  rw [Rat.num_divInt, Int.gcd_comm b a]
  obtain ⟨c, hc⟩ := Int.gcd_dvd_left (a := a) (b := b)
  have hg : (Int.gcd a b : Int) ≠ 0 := by
    intro z
    have z' : Int.gcd a b = 0 := by exact_mod_cast z
    rw [Int.gcd_eq_zero_iff] at z'
    exact hb z'.2
  generalize hG : (Int.gcd a b : Int) = g at *
  have gp : 0 < g := by
    have : 0 ≤ g := by rw [← hG]; exact Int.natCast_nonneg _
    omega
  rw [hc]
  by_cases h : b < 0
  · rw [if_pos h, Int.sign_eq_neg_one_of_neg h]
    have e1 : g * c = (-g) * (-c) := by rw [Int.neg_mul_neg]
    have e2 : (-1 : Int) * (g * c) = g * (-c) := by rw [Int.mul_neg]; omega
    rw [e2, Int.mul_ediv_cancel_left _ hg]
    rw [e1, Int.mul_fdiv_cancel_left _ (by omega)]
  · have hb' : 0 < b := by omega
    rw [if_neg h, Int.sign_eq_one_of_pos hb', Int.one_mul, Int.mul_ediv_cancel_left _ hg, Int.mul_fdiv_cancel_left _ hg]
theorem divInt_den (a b : Int) (hb : b ≠ 0) : b.fdiv (if b < 0 then -(Int.gcd a b : Int) else (Int.gcd a b : Int)) = ((Rat.divInt a b).den : Int) := by
  rw [Rat.den_divInt, if_neg hb, Int.gcd_comm b a]
  obtain ⟨c, hc⟩ := Int.gcd_dvd_right (a := a) (b := b)
  have hg : (Int.gcd a b : Int) ≠ 0 := by
    intro z
    have z' : Int.gcd a b = 0 := by exact_mod_cast z
    rw [Int.gcd_eq_zero_iff] at z'
    exact hb z'.2
  rw [Int.natCast_ediv]
  generalize hG : (Int.gcd a b : Int) = g at *
  have gp : 0 < g := by
    have : 0 ≤ g := by rw [← hG]; exact Int.natCast_nonneg _
    omega
  by_cases h : b < 0
  · have e3 : ((b.natAbs : Nat) : Int) = g * (-c) := by rw [Int.mul_neg, ← hc]; omega
    rw [if_pos h, e3, Int.mul_ediv_cancel_left _ hg]
    have e1 : b = (-g) * (-c) := by rw [Int.neg_mul_neg]; exact hc
    rw [e1, Int.mul_fdiv_cancel_left _ (by omega)]
  · have e3 : ((b.natAbs : Nat) : Int) = g * c := by rw [← hc]; omega
    rw [if_neg h, e3, Int.mul_ediv_cancel_left _ hg]
    have e1 : b = g * c := hc
    rw [e1, Int.mul_fdiv_cancel_left _ hg]
theorem fraction_ok {T : Tab} (h1 : T "divisor" = some f_divisor) (h2 : T "fraction" = some f_fraction) (k : Nat) (a b : Int) (hb : b ≠ 0) {n : Nat} (hs : B n b) (hn : n ≤ 9000) {S : Sto} {P : PV} {E : PX}
    (h : P (Qv (Rat.divInt a b)) S) : call T (k + 2) "fraction" [.int a, .int b] S P E := by
  refine call_def h2 rfl ?_
  unfold f_fraction
  walk_at "am"
  rw [if_neg hb]
  refine divisor_ok h1 rfl rfl rfl k a b ?_
  walk_at "if"
  have hg : Int.gcd a b ≠ 0 := by
    intro z
    rw [Int.gcd_eq_zero_iff] at z
    exact hb z.2
  have key : CDivA (if b < 0 then -(Int.gcd a b : Int) else (Int.gcd a b : Int)) := by
    refine ⟨by split <;> omega, B.log (n := n) (hs.of_le ?_) hn⟩
    have := gcd_le (a := a) hb
    split <;> simp <;> exact this
  have e1 := divInt_num a b hb
  have e2 := divInt_den a b hb
  split
  · rename_i hl
    rw [if_pos hl] at key e1 e2
    refine ⟨key, key, fin_keep ?_⟩
    rw [e1, e2]; exact h
  · rename_i hl
    rw [if_neg hl] at key e1 e2
    refine ⟨key, key, fin_keep ?_⟩
    rw [e1, e2]; exact h
/-! ### of a fraction's parts -/
theorem divInt_B {a b : Int} {n : Nat} (ha : B n a) (hb : B n b) (h0 : b ≠ 0) : B n (Rat.divInt a b).num ∧ B n ((Rat.divInt a b).den : Int) := by
  refine ⟨?_, ?_⟩
  · refine ha.of_le ?_
    rw [Rat.num_divInt]
    refine Nat.le_trans (Int.natAbs_ediv_le_natAbs _ _) ?_
    rw [Int.natAbs_mul, Int.natAbs_sign_of_ne_zero h0, Nat.one_mul]
    exact Nat.le_refl _
  · refine hb.of_le ?_
    rw [Rat.den_divInt, if_neg h0]
    exact Nat.div_le_self _ _
theorem den_ne (r : Rat) : (r.den : Int) ≠ 0 := by
  have := r.den_pos
  omega
theorem divInt_cross {a b : Int} (h0 : b ≠ 0) : (Rat.divInt a b).num * b = a * (Rat.divInt a b).den := by
  have h := Rat.num_divInt_den (Rat.divInt a b)
  exact (Rat.divInt_eq_divInt_iff (den_ne _) h0).mp h
end FR
end

section
set_option linter.all false
set_option maxRecDepth 100000
set_option maxHeartbeats 1000000
/-! The laws' own small defs. -/
open PySem
namespace AM
def f_l_cell_at : Fn := ⟨["_law_script", "_law_k"], ["_law_script", "_law_k"],
  (.cons (.ite (.val (.cmp .lt (.var 1) (.len (.var 0)))) (.cons (.ret (.sub (.var 0) (.var 1)))
  .nil) .nil)
  (.cons (.ret (.int 0))
  .nil))⟩
def f_l_whole : Fn := ⟨["_law_found"], ["_law_found"],
  (.cons (.ret (.tst (.and (.cons (.val (.isi (.var 0) .int)) (.one (.not (.val (.isi (.var 0) .bool))))))))
  .nil)⟩
def f_l_signed : Fn := ⟨["_law_cell", "_law_most"], ["_law_cell", "_law_most"],
  (.cons (.ite (.val (.cmp .eq (.bin .mod (.var 0) (.int 2)) (.int 1))) (.cons (.ret (.neg (.bin .mod (.bin .fdiv (.var 0) (.int 2)) (.var 1))))
  .nil) .nil)
  (.cons (.ret (.bin .mod (.bin .fdiv (.var 0) (.int 2)) (.var 1)))
  .nil))⟩
def f_l_is_fraction : Fn := ⟨["_law_found"], ["_law_found"],
  (.cons (.ite (.or (.cons (.not (.val (.isi (.var 0) .tuple))) (.one (.val (.cmp .ne (.len (.var 0)) (.int 2)))))) (.cons (.ret (.bl false))
  .nil) .nil)
  (.cons (.ite (.or (.cons (.not (.val (.call "_law_whole" (.cons (.sub (.var 0) (.int 0)) .nil)))) (.one (.not (.val (.call "_law_whole" (.cons (.sub (.var 0) (.int 1)) .nil))))))) (.cons (.ret (.bl false))
  .nil) .nil)
  (.cons (.ret (.tst (.and (.cons (.val (.cmp .ge (.sub (.var 0) (.int 1)) (.int 1))) (.one (.val (.cmp .eq (.call "_law_divisor" (.cons (.sub (.var 0) (.int 0)) (.cons (.sub (.var 0) (.int 1)) .nil))) (.int 1))))))))
  .nil)))⟩
end AM
namespace FR
open PySem AM
local macro_rules | `(tactic| walk_at "am") => `(tactic| try simp only [st_set0, st_setS, iteTrue, iteFalse, iteDec, iteNDec, exSome, exBl, W_var, W_int, W_bl, W_non, W_str, W_tup, W_lst, W_bin, W_neg, W_cmp, W_isN, W_notN, W_lrev, W_maxd, W_sortk, wIsb, wNisb, W_chain, W_chain3, W_tst, W_ite, W_call, W_len, W_abs, W_isi, W_sub, WT_val, WT_not, WT_and, WT_or, WA_one, WA_cons, WO_one, WO_cons, WB_val, WB_not, WB_and, WB_or, WBA_one, WBA_cons, WBO_one, WBO_cons, WL_nil, WL_cons, WS_set, WS_ret, WS_retN, WS_pass, WS_brk, WS_cont, WS_drop, WS_ite, WS_raise, WSs_nil, Ss_set, Ss_ret, Ss_retN, Ss_pass, Ss_brk, Ss_cont, Ss_drop, Ss_raise, Ss_ite_ret, Ss_ite_retN, Ss_ite_raise, Ss_ite_cont, Ss_ite_brk, Ss_ite_last, gt_0, gt_S, wAdd_int, wSub_int, wMul_int, wMul_rep, wMul_str, wDiv_int, wMod_int, wPow_int, wAdd_str, wNeg_int, wAbs_int, wLt_int, wLe_int, wGt_int, wGe_int, wEq_int, wNe_int, wEq_bl, wNe_bl, wEq_str, wNe_str, wLen_tup, wLen_lst, tru_bl, tru_int, ty_int_int, ty_int_bool, ty_int_str, ty_int_tuple, ty_int_list, ty_int_dict, ty_bl_int, ty_bl_bool, ty_bl_str, ty_bl_tuple, ty_bl_list, ty_bl_dict, ty_str_int, ty_str_bool, ty_str_str, ty_str_tuple, ty_str_list, ty_str_dict, ty_tup_int, ty_tup_bool, ty_tup_str, ty_tup_tuple, ty_tup_list, ty_tup_dict, ty_lst_int, ty_lst_bool, ty_lst_str, ty_lst_tuple, ty_lst_list, ty_lst_dict, ty_dct_int, ty_dct_bool, ty_dct_str, ty_dct_tuple, ty_dct_list, ty_dct_dict, ty_non, sub_tup0, sub_tup1, sub_tup2, sub_tup3, sub_tup4, sub_tup5, sub_lst0, sub_lst1, sub_lst2, sub_lst3, sub_lst4, sub_lst5, startA, List.map_cons, List.map_nil, List.length_cons, List.length_nil, List.replicate, List.cons_append, List.nil_append, true_and, and_true, ne_eq, isNon, Bool.not_true, Bool.not_false, Bool.true_or, Bool.or_true, Bool.false_or, reduceIte, Nat.reduceAdd, Nat.zero_add, Int.cast_ofNat_Int, Int.reduceEq, Int.reduceLT, Int.reduceLE, Nat.reduceLeDiff, decide_true, decide_false, not_true_eq_false, not_false_eq_true, Nat.reduceSub, Int.reduceToNat, W_slice, W_blt, W_mth, W_comp, WOe_none, WOe_some, WI_seq, WI_keys, WI_items, WI_range1, WI_range2, WI_enum, WI_zip, WI_rev, WI_revr, WI_rangeD, WT0_none, WT0_some, Ss_asg, Ss_setSub, Ss_aug, WS_asg, WS_aug, WS_for, WS_setC, bT_name, bT_tup, bT_lst, bTs_nil, bTs_name, seq_lst, seq_tup, seq_scr, seq_str, seq_loc, en_tup, en_lst, en_scr, en_loc, lst_lst, lst_scr, lst_loc, exInt, exLoc, exLst, exLst1, exLV_lst, exLV_loc, mOk_app, mOk_pop, mOk_ext, mOk_ins, mOk_ind, mOk_join, mOk_indl, m_append, m_pop, m_extend, m_insert, m_join, b_listL, b_listT, b_listS, b_listK, b_tupL, b_tupT, b_tupK, b_max2, b_min2, b_ord, b_str, sl_lst, sl_loc, sl_scr, sl_tupE, sl_strE, cat_lst, cat_loc, cat_tup, wLen_scr, wLen_loc, wLen_str, wSub_scr, wSub_loc, wSub_str, aug_add, aug_sub, tru_lst, tru_tup, tru_non, ty_scr_list, sg_p0, sg_pl, ss_p0, ss_pl, ob_set0, ob_set1, ob_set2, ob_set3, ob_g0, ob_g1, ob_g2, ob_g3, List.append_assoc, List.length_append, List.nil_append, Nat.add_zero, Nat.add_assoc, Int.reduceNeg, wipeA, orc_run, orc_glob, orc_init, orc_isa, orc_gdct, W_isc, W_isE, W_isEt, orc_xk, m_upper, m_partition, m_split, m_endswith, m_find, mOk_upper, mOk_partition, mOk_split, mOk_endswith, mOk_find, b_intB, W_glob, W_gget, W_fld, W_mcall, W_make, W_make0, W_dsp, Ss_setFld, subO_l, subO_d, subO_k, lenO_l, lenO_d, listO_l, listO_d, putO_l, keyV_int, keyV_str, wIn_str, wNotin_str, mapSome, at_0, at_1, at_2, at_3, at_4, at_5, ix_1_0, ix_2_0, ix_2_1, ix_3_0, ix_3_1, ix_3_2, ix_4_0, ix_4_1, ix_4_2, ix_4_3, va_s0, va_s1, va_s2, va_s3])
local macro_rules | `(tactic| walk_at "if") => `(tactic| (try simp only []); rw [Ss_ite]; simp only [st_set0, st_setS, iteTrue, iteFalse, iteDec, iteNDec, exSome, exBl, W_var, W_int, W_bl, W_non, W_str, W_tup, W_lst, W_bin, W_neg, W_cmp, W_isN, W_notN, W_lrev, W_maxd, W_sortk, wIsb, wNisb, W_chain, W_chain3, W_tst, W_ite, W_call, W_len, W_abs, W_isi, W_sub, WT_val, WT_not, WT_and, WT_or, WA_one, WA_cons, WO_one, WO_cons, WB_val, WB_not, WB_and, WB_or, WBA_one, WBA_cons, WBO_one, WBO_cons, WL_nil, WL_cons, WS_set, WS_ret, WS_retN, WS_pass, WS_brk, WS_cont, WS_drop, WS_ite, WS_raise, WSs_nil, Ss_set, Ss_ret, Ss_retN, Ss_pass, Ss_brk, Ss_cont, Ss_drop, Ss_raise, Ss_ite_ret, Ss_ite_retN, Ss_ite_raise, Ss_ite_cont, Ss_ite_brk, Ss_ite_last, gt_0, gt_S, wAdd_int, wSub_int, wMul_int, wMul_rep, wMul_str, wDiv_int, wMod_int, wPow_int, wAdd_str, wNeg_int, wAbs_int, wLt_int, wLe_int, wGt_int, wGe_int, wEq_int, wNe_int, wEq_bl, wNe_bl, wEq_str, wNe_str, wLen_tup, wLen_lst, tru_bl, tru_int, ty_int_int, ty_int_bool, ty_int_str, ty_int_tuple, ty_int_list, ty_int_dict, ty_bl_int, ty_bl_bool, ty_bl_str, ty_bl_tuple, ty_bl_list, ty_bl_dict, ty_str_int, ty_str_bool, ty_str_str, ty_str_tuple, ty_str_list, ty_str_dict, ty_tup_int, ty_tup_bool, ty_tup_str, ty_tup_tuple, ty_tup_list, ty_tup_dict, ty_lst_int, ty_lst_bool, ty_lst_str, ty_lst_tuple, ty_lst_list, ty_lst_dict, ty_dct_int, ty_dct_bool, ty_dct_str, ty_dct_tuple, ty_dct_list, ty_dct_dict, ty_non, sub_tup0, sub_tup1, sub_tup2, sub_tup3, sub_tup4, sub_tup5, sub_lst0, sub_lst1, sub_lst2, sub_lst3, sub_lst4, sub_lst5, startA, List.map_cons, List.map_nil, List.length_cons, List.length_nil, List.replicate, List.cons_append, List.nil_append, true_and, and_true, ne_eq, isNon, Bool.not_true, Bool.not_false, Bool.true_or, Bool.or_true, Bool.false_or, reduceIte, Nat.reduceAdd, Nat.zero_add, Int.cast_ofNat_Int, Int.reduceEq, Int.reduceLT, Int.reduceLE, Nat.reduceLeDiff, decide_true, decide_false, not_true_eq_false, not_false_eq_true, Nat.reduceSub, Int.reduceToNat, W_slice, W_blt, W_mth, W_comp, WOe_none, WOe_some, WI_seq, WI_keys, WI_items, WI_range1, WI_range2, WI_enum, WI_zip, WI_rev, WI_revr, WI_rangeD, WT0_none, WT0_some, Ss_asg, Ss_setSub, Ss_aug, WS_asg, WS_aug, WS_for, WS_setC, bT_name, bT_tup, bT_lst, bTs_nil, bTs_name, seq_lst, seq_tup, seq_scr, seq_str, seq_loc, en_tup, en_lst, en_scr, en_loc, lst_lst, lst_scr, lst_loc, exInt, exLoc, exLst, exLst1, exLV_lst, exLV_loc, mOk_app, mOk_pop, mOk_ext, mOk_ins, mOk_ind, mOk_join, mOk_indl, m_append, m_pop, m_extend, m_insert, m_join, b_listL, b_listT, b_listS, b_listK, b_tupL, b_tupT, b_tupK, b_max2, b_min2, b_ord, b_str, sl_lst, sl_loc, sl_scr, sl_tupE, sl_strE, cat_lst, cat_loc, cat_tup, wLen_scr, wLen_loc, wLen_str, wSub_scr, wSub_loc, wSub_str, aug_add, aug_sub, tru_lst, tru_tup, tru_non, ty_scr_list, sg_p0, sg_pl, ss_p0, ss_pl, ob_set0, ob_set1, ob_set2, ob_set3, ob_g0, ob_g1, ob_g2, ob_g3, List.append_assoc, List.length_append, List.nil_append, Nat.add_zero, Nat.add_assoc, Int.reduceNeg, wipeA, orc_run, orc_glob, orc_init, orc_isa, orc_gdct, W_isc, W_isE, W_isEt, orc_xk, m_upper, m_partition, m_split, m_endswith, m_find, mOk_upper, mOk_partition, mOk_split, mOk_endswith, mOk_find, b_intB, W_glob, W_gget, W_fld, W_mcall, W_make, W_make0, W_dsp, Ss_setFld, subO_l, subO_d, subO_k, lenO_l, lenO_d, listO_l, listO_d, putO_l, keyV_int, keyV_str, wIn_str, wNotin_str, mapSome, at_0, at_1, at_2, at_3, at_4, at_5, ix_1_0, ix_2_0, ix_2_1, ix_3_0, ix_3_1, ix_3_2, ix_4_0, ix_4_1, ix_4_2, ix_4_3, va_s0, va_s1, va_s2, va_s3])
def cl (ns : List Int) (i : Int) : Int := ns.getD i.toNat 0
theorem cell_ok {T : Tab} {f : Str} {d : Fn} (hT : T f = some d) (hd : d.body = f_l_cell_at.body) (hp : d.ps.length = 2) (hN : d.N.length = 2) (k : Nat) (ns : List Int) (i : Int) (hi : 0 ≤ i) {S : Sto} {P : PV} {E : PX}
    (h : P (.int (cl ns i)) S) : call T (k + 1) f [.scr ns, .int i] S P E := by
  refine call_def hT hp.symm ?_
  rw [hd]
  unfold f_l_cell_at
  simp only [startA_eq, hN]
  walk_at "am"
  obtain ⟨n, rfl⟩ := Int.eq_ofNat_of_zero_le hi
  unfold cl at h
  split
  · rename_i hl
    have hl' : n < ns.length := by omega
    refine ⟨ns[n], L2.atI_nat (by simp [hl']), fin_keep ?_⟩
    have e : ns.getD (n : Int).toNat 0 = ns[n] := by simp [hl']
    rw [e] at h
    exact h
  · rename_i hl
    have e : ns.getD (n : Int).toNat 0 = 0 := by
      rw [List.getD_eq_getElem?_getD, List.getElem?_eq_none (by simp; omega)]; rfl
    rw [e] at h
    exact fin_keep h
/-- below nought for an odd cell -/
def sg (c m : Int) : Int := if c.fmod 2 = 1 then -((c.fdiv 2).fmod m) else (c.fdiv 2).fmod m
theorem cdiv_small {j : Int} (h0 : j ≠ 0) (h : j.natAbs < 2 ^ 200) : CDivA j := ⟨h0, B.log (n := 200) h (by decide)⟩
theorem signed_ok {T : Tab} {f : Str} {d : Fn} (hT : T f = some d) (hd : d.body = f_l_signed.body) (hp : d.ps.length = 2) (hN : d.N.length = 2) (k : Nat) (c m : Int) (hm : m ≠ 0) {S : Sto} {P : PV} {E : PX}
    (h : P (.int (sg c m)) S) : call T (k + 1) f [.int c, .int m] S P E := by
  refine call_def hT hp.symm ?_
  rw [hd]
  unfold f_l_signed
  simp only [startA_eq, hN]
  walk_at "am"
  have h2 : CDivA 2 := cdiv_small (by decide) (by decide)
  unfold sg at h
  split
  · rename_i e
    rw [if_pos e] at h
    exact ⟨h2, hm, fin_keep h⟩
  · rename_i e
    rw [if_neg e] at h
    exact ⟨h2, hm, fin_keep h⟩
theorem sg_lt (c m : Int) (hm : 0 < m) : (sg c m).natAbs < m.natAbs := by
  have h1 := Int.fmod_eq_emod_of_nonneg (c.fdiv 2) (show 0 ≤ m by omega)
  have h2 := Int.emod_nonneg (c.fdiv 2) (show m ≠ 0 by omega)
  have h3 := Int.emod_lt_of_pos (c.fdiv 2) hm
  unfold sg
  split <;> omega
/-- whole: of whole numbers -/
theorem whole_ok {T : Tab} {f : Str} {d : Fn} (hT : T f = some d) (hd : d.body = f_l_whole.body) (hp : d.ps.length = 1) (hN : d.N.length = 1) (k : Nat) (i : Int) {S : Sto} {P : PV} {E : PX}
    (h : P (.bl true) S) : call T (k + 1) f [.int i] S P E := by
  refine call_def hT hp.symm ?_
  rw [hd]
  unfold f_l_whole
  simp only [startA_eq, hN]
  walk_at "am"
  exact fin_keep h
theorem rat_gcd (r : Rat) : Int.gcd r.num (r.den : Int) = 1 := by
  have := r.reduced
  unfold Nat.Coprime at this
  unfold Int.gcd
  simpa using this
theorem isfrac_ok {T : Tab} {f : Str} {d e1 e2 : Fn} (hT : T f = some d) (hd : d.body = f_l_is_fraction.body) (hp : d.ps.length = 1) (hN : d.N.length = 1)
    (w1 : T "_law_whole" = some e1) (w2 : e1.body = f_l_whole.body) (w3 : e1.ps.length = 1) (w4 : e1.N.length = 1) (v1 : T "_law_divisor" = some e2) (v2 : e2.body = f_divisor.body) (v3 : e2.ps.length = 2) (v4 : e2.N.length = 3)
    (k : Nat) (r : Rat) {S : Sto} {P : PV} {E : PX} (h : P (.bl true) S) : call T (k + 2) f [Qv r] S P E := by
  refine call_def hT hp.symm ?_
  rw [hd]
  unfold f_l_is_fraction Qv
  simp only [startA_eq, hN]
  walk_at "am"
  have hpos : (1 : Int) ≤ (r.den : Int) := by
    have := r.den_pos
    omega
  refine whole_ok w1 w2 w3 w4 k _ ?_
  walk_at "am"
  refine whole_ok w1 w2 w3 w4 k _ ?_
  walk_at "am"
  rw [if_pos hpos]
  refine divisor_ok v1 v2 v3 v4 k _ _ ?_
  walk_at "am"
  rw [rat_gcd]
  exact fin_keep h
end FR
end

section
set_option linter.all false
set_option maxRecDepth 100000
set_option maxHeartbeats 1000000
/-! Sums, products, quotients, bounds of fractions. -/
open PySem
namespace AM
def f_plus : Fn := ⟨["one", "other"], ["one", "other"],
  (.cons (.ret (.call "fraction" (.cons (.bin .add (.bin .mul (.sub (.var 0) (.int 0)) (.sub (.var 1) (.int 1))) (.bin .mul (.sub (.var 1) (.int 0)) (.sub (.var 0) (.int 1)))) (.cons (.bin .mul (.sub (.var 0) (.int 1)) (.sub (.var 1) (.int 1))) .nil))))
  .nil)⟩
def f_minus : Fn := ⟨["one", "other"], ["one", "other"],
  (.cons (.ret (.call "fraction" (.cons (.bin .sub (.bin .mul (.sub (.var 0) (.int 0)) (.sub (.var 1) (.int 1))) (.bin .mul (.sub (.var 1) (.int 0)) (.sub (.var 0) (.int 1)))) (.cons (.bin .mul (.sub (.var 0) (.int 1)) (.sub (.var 1) (.int 1))) .nil))))
  .nil)⟩
def f_times : Fn := ⟨["one", "other"], ["one", "other"],
  (.cons (.ret (.call "fraction" (.cons (.bin .mul (.sub (.var 0) (.int 0)) (.sub (.var 1) (.int 0))) (.cons (.bin .mul (.sub (.var 0) (.int 1)) (.sub (.var 1) (.int 1))) .nil))))
  .nil)⟩
def f_over : Fn := ⟨["one", "other"], ["one", "other"],
  (.cons (.ite (.val (.cmp .eq (.sub (.var 1) (.int 0)) (.int 0))) (.cons (.raise "NoFraction")
  .nil) .nil)
  (.cons (.ret (.call "fraction" (.cons (.bin .mul (.sub (.var 0) (.int 0)) (.sub (.var 1) (.int 1))) (.cons (.bin .mul (.sub (.var 0) (.int 1)) (.sub (.var 1) (.int 0))) .nil))))
  .nil))⟩
def f_less : Fn := ⟨["one", "other"], ["one", "other"],
  (.cons (.ret (.cmp .lt (.bin .mul (.sub (.var 0) (.int 0)) (.sub (.var 1) (.int 1))) (.bin .mul (.sub (.var 1) (.int 0)) (.sub (.var 0) (.int 1)))))
  .nil)⟩
def f_held : Fn := ⟨["one", "low", "high"], ["one", "low", "high"],
  (.cons (.ite (.and (.cons (.val (.notN (.var 2))) (.one (.val (.call "less" (.cons (.var 2) (.cons (.var 1) .nil))))))) (.cons (.set 2 (.var 1))
  .nil) .nil)
  (.cons (.ite (.val (.call "less" (.cons (.var 0) (.cons (.var 1) .nil)))) (.cons (.ret (.var 1))
  .nil) .nil)
  (.cons (.ite (.and (.cons (.val (.notN (.var 2))) (.one (.val (.call "less" (.cons (.var 2) (.cons (.var 0) .nil))))))) (.cons (.ret (.var 2))
  .nil) .nil)
  (.cons (.ret (.var 0))
  .nil))))⟩
end AM
namespace FR
open PySem AM
local macro_rules | `(tactic| walk_at "am") => `(tactic| try simp only [st_set0, st_setS, iteTrue, iteFalse, iteDec, iteNDec, exSome, exBl, W_var, W_int, W_bl, W_non, W_str, W_tup, W_lst, W_bin, W_neg, W_cmp, W_isN, W_notN, W_lrev, W_maxd, W_sortk, wIsb, wNisb, W_chain, W_chain3, W_tst, W_ite, W_call, W_len, W_abs, W_isi, W_sub, WT_val, WT_not, WT_and, WT_or, WA_one, WA_cons, WO_one, WO_cons, WB_val, WB_not, WB_and, WB_or, WBA_one, WBA_cons, WBO_one, WBO_cons, WL_nil, WL_cons, WS_set, WS_ret, WS_retN, WS_pass, WS_brk, WS_cont, WS_drop, WS_ite, WS_raise, WSs_nil, Ss_set, Ss_ret, Ss_retN, Ss_pass, Ss_brk, Ss_cont, Ss_drop, Ss_raise, Ss_ite_ret, Ss_ite_retN, Ss_ite_raise, Ss_ite_cont, Ss_ite_brk, Ss_ite_last, gt_0, gt_S, wAdd_int, wSub_int, wMul_int, wMul_rep, wMul_str, wDiv_int, wMod_int, wPow_int, wAdd_str, wNeg_int, wAbs_int, wLt_int, wLe_int, wGt_int, wGe_int, wEq_int, wNe_int, wEq_bl, wNe_bl, wEq_str, wNe_str, wLen_tup, wLen_lst, tru_bl, tru_int, ty_int_int, ty_int_bool, ty_int_str, ty_int_tuple, ty_int_list, ty_int_dict, ty_bl_int, ty_bl_bool, ty_bl_str, ty_bl_tuple, ty_bl_list, ty_bl_dict, ty_str_int, ty_str_bool, ty_str_str, ty_str_tuple, ty_str_list, ty_str_dict, ty_tup_int, ty_tup_bool, ty_tup_str, ty_tup_tuple, ty_tup_list, ty_tup_dict, ty_lst_int, ty_lst_bool, ty_lst_str, ty_lst_tuple, ty_lst_list, ty_lst_dict, ty_dct_int, ty_dct_bool, ty_dct_str, ty_dct_tuple, ty_dct_list, ty_dct_dict, ty_non, sub_tup0, sub_tup1, sub_tup2, sub_tup3, sub_tup4, sub_tup5, sub_lst0, sub_lst1, sub_lst2, sub_lst3, sub_lst4, sub_lst5, startA, List.map_cons, List.map_nil, List.length_cons, List.length_nil, List.replicate, List.cons_append, List.nil_append, true_and, and_true, ne_eq, isNon, Bool.not_true, Bool.not_false, Bool.true_or, Bool.or_true, Bool.false_or, reduceIte, Nat.reduceAdd, Nat.zero_add, Int.cast_ofNat_Int, Int.reduceEq, Int.reduceLT, Int.reduceLE, Nat.reduceLeDiff, decide_true, decide_false, not_true_eq_false, not_false_eq_true, Nat.reduceSub, Int.reduceToNat, W_slice, W_blt, W_mth, W_comp, WOe_none, WOe_some, WI_seq, WI_keys, WI_items, WI_range1, WI_range2, WI_enum, WI_zip, WI_rev, WI_revr, WI_rangeD, WT0_none, WT0_some, Ss_asg, Ss_setSub, Ss_aug, WS_asg, WS_aug, WS_for, WS_setC, bT_name, bT_tup, bT_lst, bTs_nil, bTs_name, seq_lst, seq_tup, seq_scr, seq_str, seq_loc, en_tup, en_lst, en_scr, en_loc, lst_lst, lst_scr, lst_loc, exInt, exLoc, exLst, exLst1, exLV_lst, exLV_loc, mOk_app, mOk_pop, mOk_ext, mOk_ins, mOk_ind, mOk_join, mOk_indl, m_append, m_pop, m_extend, m_insert, m_join, b_listL, b_listT, b_listS, b_listK, b_tupL, b_tupT, b_tupK, b_max2, b_min2, b_ord, b_str, sl_lst, sl_loc, sl_scr, sl_tupE, sl_strE, cat_lst, cat_loc, cat_tup, wLen_scr, wLen_loc, wLen_str, wSub_scr, wSub_loc, wSub_str, aug_add, aug_sub, tru_lst, tru_tup, tru_non, ty_scr_list, sg_p0, sg_pl, ss_p0, ss_pl, ob_set0, ob_set1, ob_set2, ob_set3, ob_g0, ob_g1, ob_g2, ob_g3, List.append_assoc, List.length_append, List.nil_append, Nat.add_zero, Nat.add_assoc, Int.reduceNeg, wipeA, orc_run, orc_glob, orc_init, orc_isa, orc_gdct, W_isc, W_isE, W_isEt, orc_xk, m_upper, m_partition, m_split, m_endswith, m_find, mOk_upper, mOk_partition, mOk_split, mOk_endswith, mOk_find, b_intB, W_glob, W_gget, W_fld, W_mcall, W_make, W_make0, W_dsp, Ss_setFld, subO_l, subO_d, subO_k, lenO_l, lenO_d, listO_l, listO_d, putO_l, keyV_int, keyV_str, wIn_str, wNotin_str, mapSome, at_0, at_1, at_2, at_3, at_4, at_5, ix_1_0, ix_2_0, ix_2_1, ix_3_0, ix_3_1, ix_3_2, ix_4_0, ix_4_1, ix_4_2, ix_4_3, va_s0, va_s1, va_s2, va_s3])
local macro_rules | `(tactic| walk_at "if") => `(tactic| (try simp only []); rw [Ss_ite]; simp only [st_set0, st_setS, iteTrue, iteFalse, iteDec, iteNDec, exSome, exBl, W_var, W_int, W_bl, W_non, W_str, W_tup, W_lst, W_bin, W_neg, W_cmp, W_isN, W_notN, W_lrev, W_maxd, W_sortk, wIsb, wNisb, W_chain, W_chain3, W_tst, W_ite, W_call, W_len, W_abs, W_isi, W_sub, WT_val, WT_not, WT_and, WT_or, WA_one, WA_cons, WO_one, WO_cons, WB_val, WB_not, WB_and, WB_or, WBA_one, WBA_cons, WBO_one, WBO_cons, WL_nil, WL_cons, WS_set, WS_ret, WS_retN, WS_pass, WS_brk, WS_cont, WS_drop, WS_ite, WS_raise, WSs_nil, Ss_set, Ss_ret, Ss_retN, Ss_pass, Ss_brk, Ss_cont, Ss_drop, Ss_raise, Ss_ite_ret, Ss_ite_retN, Ss_ite_raise, Ss_ite_cont, Ss_ite_brk, Ss_ite_last, gt_0, gt_S, wAdd_int, wSub_int, wMul_int, wMul_rep, wMul_str, wDiv_int, wMod_int, wPow_int, wAdd_str, wNeg_int, wAbs_int, wLt_int, wLe_int, wGt_int, wGe_int, wEq_int, wNe_int, wEq_bl, wNe_bl, wEq_str, wNe_str, wLen_tup, wLen_lst, tru_bl, tru_int, ty_int_int, ty_int_bool, ty_int_str, ty_int_tuple, ty_int_list, ty_int_dict, ty_bl_int, ty_bl_bool, ty_bl_str, ty_bl_tuple, ty_bl_list, ty_bl_dict, ty_str_int, ty_str_bool, ty_str_str, ty_str_tuple, ty_str_list, ty_str_dict, ty_tup_int, ty_tup_bool, ty_tup_str, ty_tup_tuple, ty_tup_list, ty_tup_dict, ty_lst_int, ty_lst_bool, ty_lst_str, ty_lst_tuple, ty_lst_list, ty_lst_dict, ty_dct_int, ty_dct_bool, ty_dct_str, ty_dct_tuple, ty_dct_list, ty_dct_dict, ty_non, sub_tup0, sub_tup1, sub_tup2, sub_tup3, sub_tup4, sub_tup5, sub_lst0, sub_lst1, sub_lst2, sub_lst3, sub_lst4, sub_lst5, startA, List.map_cons, List.map_nil, List.length_cons, List.length_nil, List.replicate, List.cons_append, List.nil_append, true_and, and_true, ne_eq, isNon, Bool.not_true, Bool.not_false, Bool.true_or, Bool.or_true, Bool.false_or, reduceIte, Nat.reduceAdd, Nat.zero_add, Int.cast_ofNat_Int, Int.reduceEq, Int.reduceLT, Int.reduceLE, Nat.reduceLeDiff, decide_true, decide_false, not_true_eq_false, not_false_eq_true, Nat.reduceSub, Int.reduceToNat, W_slice, W_blt, W_mth, W_comp, WOe_none, WOe_some, WI_seq, WI_keys, WI_items, WI_range1, WI_range2, WI_enum, WI_zip, WI_rev, WI_revr, WI_rangeD, WT0_none, WT0_some, Ss_asg, Ss_setSub, Ss_aug, WS_asg, WS_aug, WS_for, WS_setC, bT_name, bT_tup, bT_lst, bTs_nil, bTs_name, seq_lst, seq_tup, seq_scr, seq_str, seq_loc, en_tup, en_lst, en_scr, en_loc, lst_lst, lst_scr, lst_loc, exInt, exLoc, exLst, exLst1, exLV_lst, exLV_loc, mOk_app, mOk_pop, mOk_ext, mOk_ins, mOk_ind, mOk_join, mOk_indl, m_append, m_pop, m_extend, m_insert, m_join, b_listL, b_listT, b_listS, b_listK, b_tupL, b_tupT, b_tupK, b_max2, b_min2, b_ord, b_str, sl_lst, sl_loc, sl_scr, sl_tupE, sl_strE, cat_lst, cat_loc, cat_tup, wLen_scr, wLen_loc, wLen_str, wSub_scr, wSub_loc, wSub_str, aug_add, aug_sub, tru_lst, tru_tup, tru_non, ty_scr_list, sg_p0, sg_pl, ss_p0, ss_pl, ob_set0, ob_set1, ob_set2, ob_set3, ob_g0, ob_g1, ob_g2, ob_g3, List.append_assoc, List.length_append, List.nil_append, Nat.add_zero, Nat.add_assoc, Int.reduceNeg, wipeA, orc_run, orc_glob, orc_init, orc_isa, orc_gdct, W_isc, W_isE, W_isEt, orc_xk, m_upper, m_partition, m_split, m_endswith, m_find, mOk_upper, mOk_partition, mOk_split, mOk_endswith, mOk_find, b_intB, W_glob, W_gget, W_fld, W_mcall, W_make, W_make0, W_dsp, Ss_setFld, subO_l, subO_d, subO_k, lenO_l, lenO_d, listO_l, listO_d, putO_l, keyV_int, keyV_str, wIn_str, wNotin_str, mapSome, at_0, at_1, at_2, at_3, at_4, at_5, ix_1_0, ix_2_0, ix_2_1, ix_3_0, ix_3_1, ix_3_2, ix_4_0, ix_4_1, ix_4_2, ix_4_3, va_s0, va_s1, va_s2, va_s3])
/-- a fraction's size -/
def BQ (n : Nat) (r : Rat) : Prop := B n r.num ∧ B n (r.den : Int)
theorem BQ.mono {m n : Nat} {r : Rat} (h : BQ m r) (l : m ≤ n) : BQ n r := ⟨h.1.mono l, h.2.mono l⟩
theorem BQ.neg {n : Nat} {r : Rat} (h : BQ n r) : BQ n (-r) := ⟨by rw [Rat.neg_num]; exact h.1.neg, by rw [Rat.neg_den]; exact h.2⟩
theorem BQ.of {n : Nat} {a b : Int} (ha : B n a) (hb : B n b) (h0 : b ≠ 0) : BQ n (Rat.divInt a b) := divInt_B ha hb h0
theorem add_dv (r q : Rat) : Rat.divInt (r.num * q.den + q.num * r.den) (r.den * q.den) = r + q := by
  have h := Rat.divInt_add_divInt r.num q.num (den_ne r) (den_ne q)
  rw [Rat.num_divInt_den, Rat.num_divInt_den] at h
  rw [h]
theorem sub_dv (r q : Rat) : Rat.divInt (r.num * q.den - q.num * r.den) (r.den * q.den) = r - q := by
  have h := Rat.divInt_sub_divInt r.num q.num (den_ne r) (den_ne q)
  rw [Rat.num_divInt_den, Rat.num_divInt_den] at h
  rw [h]
theorem mul_dv (r q : Rat) : Rat.divInt (r.num * q.num) (r.den * q.den) = r * q := by
  have h := Rat.divInt_mul_divInt r.num q.num (d₁ := r.den) (d₂ := q.den)
  rw [Rat.num_divInt_den, Rat.num_divInt_den] at h
  rw [h]
theorem div_dv (r q : Rat) : Rat.divInt (r.num * q.den) (r.den * q.num) = r / q := by
  have h := Rat.divInt_mul_divInt r.num q.den (d₁ := r.den) (d₂ := q.num)
  have e : Rat.divInt q.den q.num = q⁻¹ := by
    rw [← Rat.inv_divInt, Rat.num_divInt_den]
  rw [Rat.num_divInt_den, e] at h
  rw [Rat.div_def, h]
theorem BQ.add {n : Nat} {r q : Rat} (h : BQ n r) (h' : BQ n q) : BQ (n + n + 1) (r + q) := by
  rw [← add_dv]
  exact BQ.of (B.add (h.1.mul h'.2) (h'.1.mul h.2)) ((h.2.mul h'.2).mono (by omega)) (Int.mul_ne_zero (den_ne r) (den_ne q))
theorem BQ.sub {n : Nat} {r q : Rat} (h : BQ n r) (h' : BQ n q) : BQ (n + n + 1) (r - q) := by
  rw [← sub_dv]
  exact BQ.of (B.sub (h.1.mul h'.2) (h'.1.mul h.2)) ((h.2.mul h'.2).mono (by omega)) (Int.mul_ne_zero (den_ne r) (den_ne q))
theorem BQ.mul {n : Nat} {r q : Rat} (h : BQ n r) (h' : BQ n q) : BQ (n + n) (r * q) := by
  rw [← mul_dv]
  exact BQ.of (h.1.mul h'.1) (h.2.mul h'.2) (Int.mul_ne_zero (den_ne r) (den_ne q))
theorem num_ne {q : Rat} (h : q ≠ 0) : q.num ≠ 0 := fun z => h (Rat.num_eq_zero.mp z)
theorem BQ.div {n : Nat} {r q : Rat} (h : BQ n r) (h' : BQ n q) (h0 : q ≠ 0) : BQ (n + n) (r / q) := by
  rw [← div_dv]
  exact BQ.of (h.1.mul h'.2) (h.2.mul h'.1) (Int.mul_ne_zero (den_ne r) (num_ne h0))
section
variable {T : Tab} (t1 : T "divisor" = some f_divisor) (t2 : T "fraction" = some f_fraction)
include t1 t2
theorem plus_ok (t3 : T "plus" = some f_plus) (k : Nat) (r q : Rat) {n : Nat} (hr : BQ n r) (hq : BQ n q) (hn : n ≤ 4000) {S : Sto} {P : PV} {E : PX} (h : P (Qv (r + q)) S) : call T (k + 3) "plus" [Qv r, Qv q] S P E := by
  refine call_def t3 rfl ?_
  unfold f_plus Qv
  walk_at "am"
  refine ⟨hr.1.cmul hq.2 (by omega), hq.1.cmul hr.2 (by omega), hr.2.cmul hq.2 (by omega), ?_⟩
  refine fraction_ok t1 t2 k _ _ (Int.mul_ne_zero (den_ne r) (den_ne q)) (hr.2.mul hq.2) (by omega) ?_
  rw [add_dv]
  exact fin_keep h
theorem minus_ok (t3 : T "minus" = some f_minus) (k : Nat) (r q : Rat) {n : Nat} (hr : BQ n r) (hq : BQ n q) (hn : n ≤ 4000) {S : Sto} {P : PV} {E : PX} (h : P (Qv (r - q)) S) : call T (k + 3) "minus" [Qv r, Qv q] S P E := by
  refine call_def t3 rfl ?_
  unfold f_minus Qv
  walk_at "am"
  refine ⟨hr.1.cmul hq.2 (by omega), hq.1.cmul hr.2 (by omega), hr.2.cmul hq.2 (by omega), ?_⟩
  refine fraction_ok t1 t2 k _ _ (Int.mul_ne_zero (den_ne r) (den_ne q)) (hr.2.mul hq.2) (by omega) ?_
  rw [sub_dv]
  exact fin_keep h
theorem times_ok (t3 : T "times" = some f_times) (k : Nat) (r q : Rat) {n : Nat} (hr : BQ n r) (hq : BQ n q) (hn : n ≤ 4000) {S : Sto} {P : PV} {E : PX} (h : P (Qv (r * q)) S) : call T (k + 3) "times" [Qv r, Qv q] S P E := by
  refine call_def t3 rfl ?_
  unfold f_times Qv
  walk_at "am"
  refine ⟨hr.1.cmul hq.1 (by omega), hr.2.cmul hq.2 (by omega), ?_⟩
  refine fraction_ok t1 t2 k _ _ (Int.mul_ne_zero (den_ne r) (den_ne q)) (hr.2.mul hq.2) (by omega) ?_
  rw [mul_dv]
  exact fin_keep h
theorem over_ok (t3 : T "over" = some f_over) (k : Nat) (r q : Rat) (h0 : q ≠ 0) {n : Nat} (hr : BQ n r) (hq : BQ n q) (hn : n ≤ 4000) {S : Sto} {P : PV} {E : PX} (h : P (Qv (r / q)) S) : call T (k + 3) "over" [Qv r, Qv q] S P E := by
  refine call_def t3 rfl ?_
  unfold f_over Qv
  walk_at "am"
  rw [if_neg (num_ne h0)]
  refine ⟨hr.1.cmul hq.2 (by omega), hr.2.cmul hq.1 (by omega), ?_⟩
  refine fraction_ok t1 t2 k _ _ (Int.mul_ne_zero (den_ne r) (num_ne h0)) (hr.2.mul hq.1) (by omega) ?_
  rw [div_dv]
  exact fin_keep h
end
theorem lt_cross (r q : Rat) : (r.num * q.den < q.num * r.den) ↔ r < q := by
  rw [Rat.lt_iff]
theorem less_ok {T : Tab} (t3 : T "less" = some f_less) (k : Nat) (r q : Rat) {n : Nat} (hr : BQ n r) (hq : BQ n q) (hn : n ≤ 4000) {S : Sto} {P : PV} {E : PX} (h : P (.bl (decide (r < q))) S) : call T (k + 1) "less" [Qv r, Qv q] S P E := by
  refine call_def t3 rfl ?_
  unfold f_less Qv
  walk_at "am"
  refine ⟨hr.1.cmul hq.2 (by omega), hq.1.cmul hr.2 (by omega), fin_keep ?_⟩
  have e : decide (r.num * q.den < q.num * r.den) = decide (r < q) := decide_eq_decide.mpr (lt_cross r q)
  rw [e]; exact h
/-- a bound that may be none -/
def OQ : Option Rat → Va
  | none => .non | some q => Qv q
def heldR (r lo : Rat) : Option Rat → Rat
  | none => if r < lo then lo else r
  | some hi => if r < lo then lo else if (if hi < lo then lo else hi) < r then (if hi < lo then lo else hi) else r
theorem held_ok {T : Tab} (t3 : T "less" = some f_less) (t4 : T "held" = some f_held) (k : Nat) (r lo : Rat) (hi : Option Rat) {n : Nat} (hr : BQ n r) (hl : BQ n lo) (hh : ∀ q, hi = some q → BQ n q) (hn : n ≤ 4000) {S : Sto} {P : PV} {E : PX} (h : P (Qv (heldR r lo hi)) S) : call T (k + 2) "held" [Qv r, Qv lo, OQ hi] S P E := by
  refine call_def t4 rfl ?_
  unfold f_held
  cases hi with
  | none =>
    unfold OQ
    simp only [heldR] at h
    refine seq_to (call_mono _ _) [some (Qv r), some (Qv lo), some .non] S (by walk_at "am") ?_
    walk_at "am"
    refine less_ok t3 k r lo hr hl hn ?_
    walk_at "am"
    split
    · rename_i z; rw [if_pos z] at h; exact fin_keep h
    · rename_i z; rw [if_neg z] at h; exact fin_keep h
  | some q =>
    unfold OQ
    simp only [heldR] at h
    have hq := hh q rfl
    refine seq_to (call_mono _ _) [some (Qv r), some (Qv lo), some (Qv (if q < lo then lo else q))] S ?_ ?_
    · simp only [Qv]
      walk_at "am"
      refine less_ok t3 k q lo hq hl hn ?_
      walk_at "am"
      split <;> rfl
    have hq' : BQ n (if q < lo then lo else q) := by split <;> assumption
    generalize (if q < lo then lo else q) = q' at *
    walk_at "am"
    refine less_ok t3 k r lo hr hl hn ?_
    walk_at "am"
    split
    · rename_i z; rw [if_pos z] at h; exact fin_keep h
    · rename_i z; rw [if_neg z] at h
      simp only [Qv]
      walk_at "am"
      refine less_ok t3 k q' r hq' hr hn ?_
      walk_at "am"
      split
      · rename_i z; rw [if_pos z] at h; exact fin_keep h
      · rename_i z; rw [if_neg z] at h; exact fin_keep h
end FR
end

section
set_option linter.all false
set_option maxRecDepth 100000
set_option maxHeartbeats 4000000
/-! Whole numbers as texts (k47 to k50). -/
open PySem
namespace NB
open PySem AM NM
local macro_rules | `(tactic| walk_at "am") => `(tactic| try simp only [W_fmt, W_js, WJ_nil, WJ_cons, Ss_par, st_set0, st_setS, iteTrue, iteFalse, iteDec, iteNDec, exSome, exBl, W_var, W_int, W_bl, W_non, W_str, W_tup, W_lst, W_bin, W_neg, W_cmp, W_isN, W_notN, W_lrev, W_maxd, W_sortk, wIsb, wNisb, W_chain, W_chain3, W_tst, W_ite, W_call, W_len, W_abs, W_isi, W_sub, WT_val, WT_not, WT_and, WT_or, WA_one, WA_cons, WO_one, WO_cons, WB_val, WB_not, WB_and, WB_or, WBA_one, WBA_cons, WBO_one, WBO_cons, WL_nil, WL_cons, WS_set, WS_ret, WS_retN, WS_pass, WS_brk, WS_cont, WS_drop, WS_ite, WS_raise, WSs_nil, Ss_set, Ss_ret, Ss_retN, Ss_pass, Ss_brk, Ss_cont, Ss_drop, Ss_raise, Ss_ite_ret, Ss_ite_retN, Ss_ite_raise, Ss_ite_cont, Ss_ite_brk, Ss_ite_last, gt_0, gt_S, wAdd_int, wSub_int, wMul_int, wMul_rep, wMul_str, wDiv_int, wMod_int, wPow_int, wAdd_str, wNeg_int, wAbs_int, wLt_int, wLe_int, wGt_int, wGe_int, wEq_int, wNe_int, wEq_bl, wNe_bl, wEq_str, wNe_str, wLen_tup, wLen_lst, tru_bl, tru_int, ty_int_int, ty_int_bool, ty_int_str, ty_int_tuple, ty_int_list, ty_int_dict, ty_bl_int, ty_bl_bool, ty_bl_str, ty_bl_tuple, ty_bl_list, ty_bl_dict, ty_str_int, ty_str_bool, ty_str_str, ty_str_tuple, ty_str_list, ty_str_dict, ty_tup_int, ty_tup_bool, ty_tup_str, ty_tup_tuple, ty_tup_list, ty_tup_dict, ty_lst_int, ty_lst_bool, ty_lst_str, ty_lst_tuple, ty_lst_list, ty_lst_dict, ty_dct_int, ty_dct_bool, ty_dct_str, ty_dct_tuple, ty_dct_list, ty_dct_dict, ty_non, sub_tup0, sub_tup1, sub_tup2, sub_tup3, sub_tup4, sub_tup5, sub_lst0, sub_lst1, sub_lst2, sub_lst3, sub_lst4, sub_lst5, startA, List.map_cons, List.map_nil, List.length_cons, List.length_nil, List.replicate, List.cons_append, List.nil_append, true_and, and_true, ne_eq, isNon, Bool.not_true, Bool.not_false, Bool.true_or, Bool.or_true, Bool.false_or, reduceIte, Nat.reduceAdd, Nat.zero_add, Int.cast_ofNat_Int, Int.reduceEq, Int.reduceLT, Int.reduceLE, Nat.reduceLeDiff, decide_true, decide_false, not_true_eq_false, not_false_eq_true, Nat.reduceSub, Int.reduceToNat, W_slice, W_blt, W_mth, W_comp, WOe_none, WOe_some, WI_seq, WI_keys, WI_items, WI_range1, WI_range2, WI_enum, WI_zip, WI_rev, WI_revr, WI_rangeD, WT0_none, WT0_some, Ss_asg, Ss_setSub, Ss_aug, WS_asg, WS_aug, WS_for, WS_setC, bT_name, bT_tup, bT_lst, bTs_nil, bTs_name, seq_lst, seq_tup, seq_scr, seq_str, seq_loc, en_tup, en_lst, en_scr, en_loc, lst_lst, lst_scr, lst_loc, exInt, exLoc, exLst, exLst1, exLV_lst, exLV_loc, mOk_app, mOk_pop, mOk_ext, mOk_ins, mOk_ind, mOk_join, mOk_indl, m_append, m_pop, m_extend, m_insert, m_join, b_listL, b_listT, b_listS, b_listK, b_tupL, b_tupT, b_tupK, b_max2, b_min2, b_ord, b_str, sl_lst, sl_loc, sl_scr, sl_tupE, sl_strE, cat_lst, cat_loc, cat_tup, wLen_scr, wLen_loc, wLen_str, wSub_scr, wSub_loc, wSub_str, aug_add, aug_sub, tru_lst, tru_tup, tru_non, ty_scr_list, sg_p0, sg_pl, ss_p0, ss_pl, ob_set0, ob_set1, ob_set2, ob_set3, ob_g0, ob_g1, ob_g2, ob_g3, List.append_assoc, List.length_append, List.nil_append, Nat.add_zero, Nat.add_assoc, Int.reduceNeg, wipeA, orc_run, orc_glob, orc_init, orc_isa, orc_gdct, W_isc, W_isE, W_isEt, orc_xk, m_upper, m_partition, m_split, m_endswith, m_find, mOk_upper, mOk_partition, mOk_split, mOk_endswith, mOk_find, b_intB, W_glob, W_gget, W_fld, W_mcall, W_make, W_make0, W_dsp, Ss_setFld, subO_l, subO_d, subO_k, lenO_l, lenO_d, listO_l, listO_d, putO_l, keyV_int, keyV_str, wIn_str, wNotin_str, mapSome, at_0, at_1, at_2, at_3, at_4, at_5, ix_1_0, ix_2_0, ix_2_1, ix_3_0, ix_3_1, ix_3_2, ix_4_0, ix_4_1, ix_4_2, ix_4_3, va_s0, va_s1, va_s2, va_s3])
local macro_rules | `(tactic| walk_at "if") => `(tactic| (try simp only []); rw [Ss_ite]; simp only [W_fmt, W_js, WJ_nil, WJ_cons, Ss_par, st_set0, st_setS, iteTrue, iteFalse, iteDec, iteNDec, exSome, exBl, W_var, W_int, W_bl, W_non, W_str, W_tup, W_lst, W_bin, W_neg, W_cmp, W_isN, W_notN, W_lrev, W_maxd, W_sortk, wIsb, wNisb, W_chain, W_chain3, W_tst, W_ite, W_call, W_len, W_abs, W_isi, W_sub, WT_val, WT_not, WT_and, WT_or, WA_one, WA_cons, WO_one, WO_cons, WB_val, WB_not, WB_and, WB_or, WBA_one, WBA_cons, WBO_one, WBO_cons, WL_nil, WL_cons, WS_set, WS_ret, WS_retN, WS_pass, WS_brk, WS_cont, WS_drop, WS_ite, WS_raise, WSs_nil, Ss_set, Ss_ret, Ss_retN, Ss_pass, Ss_brk, Ss_cont, Ss_drop, Ss_raise, Ss_ite_ret, Ss_ite_retN, Ss_ite_raise, Ss_ite_cont, Ss_ite_brk, Ss_ite_last, gt_0, gt_S, wAdd_int, wSub_int, wMul_int, wMul_rep, wMul_str, wDiv_int, wMod_int, wPow_int, wAdd_str, wNeg_int, wAbs_int, wLt_int, wLe_int, wGt_int, wGe_int, wEq_int, wNe_int, wEq_bl, wNe_bl, wEq_str, wNe_str, wLen_tup, wLen_lst, tru_bl, tru_int, ty_int_int, ty_int_bool, ty_int_str, ty_int_tuple, ty_int_list, ty_int_dict, ty_bl_int, ty_bl_bool, ty_bl_str, ty_bl_tuple, ty_bl_list, ty_bl_dict, ty_str_int, ty_str_bool, ty_str_str, ty_str_tuple, ty_str_list, ty_str_dict, ty_tup_int, ty_tup_bool, ty_tup_str, ty_tup_tuple, ty_tup_list, ty_tup_dict, ty_lst_int, ty_lst_bool, ty_lst_str, ty_lst_tuple, ty_lst_list, ty_lst_dict, ty_dct_int, ty_dct_bool, ty_dct_str, ty_dct_tuple, ty_dct_list, ty_dct_dict, ty_non, sub_tup0, sub_tup1, sub_tup2, sub_tup3, sub_tup4, sub_tup5, sub_lst0, sub_lst1, sub_lst2, sub_lst3, sub_lst4, sub_lst5, startA, List.map_cons, List.map_nil, List.length_cons, List.length_nil, List.replicate, List.cons_append, List.nil_append, true_and, and_true, ne_eq, isNon, Bool.not_true, Bool.not_false, Bool.true_or, Bool.or_true, Bool.false_or, reduceIte, Nat.reduceAdd, Nat.zero_add, Int.cast_ofNat_Int, Int.reduceEq, Int.reduceLT, Int.reduceLE, Nat.reduceLeDiff, decide_true, decide_false, not_true_eq_false, not_false_eq_true, Nat.reduceSub, Int.reduceToNat, W_slice, W_blt, W_mth, W_comp, WOe_none, WOe_some, WI_seq, WI_keys, WI_items, WI_range1, WI_range2, WI_enum, WI_zip, WI_rev, WI_revr, WI_rangeD, WT0_none, WT0_some, Ss_asg, Ss_setSub, Ss_aug, WS_asg, WS_aug, WS_for, WS_setC, bT_name, bT_tup, bT_lst, bTs_nil, bTs_name, seq_lst, seq_tup, seq_scr, seq_str, seq_loc, en_tup, en_lst, en_scr, en_loc, lst_lst, lst_scr, lst_loc, exInt, exLoc, exLst, exLst1, exLV_lst, exLV_loc, mOk_app, mOk_pop, mOk_ext, mOk_ins, mOk_ind, mOk_join, mOk_indl, m_append, m_pop, m_extend, m_insert, m_join, b_listL, b_listT, b_listS, b_listK, b_tupL, b_tupT, b_tupK, b_max2, b_min2, b_ord, b_str, sl_lst, sl_loc, sl_scr, sl_tupE, sl_strE, cat_lst, cat_loc, cat_tup, wLen_scr, wLen_loc, wLen_str, wSub_scr, wSub_loc, wSub_str, aug_add, aug_sub, tru_lst, tru_tup, tru_non, ty_scr_list, sg_p0, sg_pl, ss_p0, ss_pl, ob_set0, ob_set1, ob_set2, ob_set3, ob_g0, ob_g1, ob_g2, ob_g3, List.append_assoc, List.length_append, List.nil_append, Nat.add_zero, Nat.add_assoc, Int.reduceNeg, wipeA, orc_run, orc_glob, orc_init, orc_isa, orc_gdct, W_isc, W_isE, W_isEt, orc_xk, m_upper, m_partition, m_split, m_endswith, m_find, mOk_upper, mOk_partition, mOk_split, mOk_endswith, mOk_find, b_intB, W_glob, W_gget, W_fld, W_mcall, W_make, W_make0, W_dsp, Ss_setFld, subO_l, subO_d, subO_k, lenO_l, lenO_d, listO_l, listO_d, putO_l, keyV_int, keyV_str, wIn_str, wNotin_str, mapSome, at_0, at_1, at_2, at_3, at_4, at_5, ix_1_0, ix_2_0, ix_2_1, ix_3_0, ix_3_1, ix_3_2, ix_4_0, ix_4_1, ix_4_2, ix_4_3, va_s0, va_s1, va_s2, va_s3])
/-- a number's text -/
def nT (n : Nat) : Str := Str.ofString (toString ((n : Nat) : Int))
theorem nT_tl (n : Nat) : (nT n).cps.toList = TL.numL n := TL.tl_num n
theorem nT_len (n : Nat) : (nT n).length = (TL.numL n).length := by rw [← nT_tl]; simp [Str.length]
theorem numL_head : ∀ n : Nat, 1 ≤ n → ∃ c r, TL.numL n = c :: r ∧ 49 ≤ c ∧ c ≤ 57 := by
  intro n
  induction n using Nat.strongRecOn with
  | _ n ih =>
    intro h1
    by_cases h : n < 10
    · exact ⟨48 + n, [], TL.numL_lt h, by omega, by omega⟩
    · obtain ⟨c, r, e, a, b⟩ := ih (n / 10) (by omega) (by omega)
      exact ⟨c, r ++ [48 + n % 10], by rw [TL.numL_step (by omega), e]; rfl, a, b⟩
theorem nT_30 {n : Nat} (h : n < 10 ^ 30) : 1 ≤ (nT n).length ∧ (nT n).length ≤ 30 := by
  rw [nT_len]
  have := TL.numL_ne n
  have h2 := TL.numL_len (n := n) (k := 30) (by decide) h
  refine ⟨?_, h2⟩
  cases e : TL.numL n with
  | nil => exact absurd e this
  | cons c r => simp
/-- the loop over the signs, and int(text) -/
def fgS : Str := Str.ofString "0123456789"
theorem nT_sign (n : Nat) : ∀ c ∈ (nT n).cps.toList, 48 ≤ c ∧ c ≤ 57 := fun c hc => by
  rw [nT_tl] at hc
  exact TL.numL_digits n c hc
theorem fg_mem {c : Nat} : ((⟨#[c]⟩ : Str).cps.getD 0 0) ∈ fgS.cps.toList ↔ 48 ≤ c ∧ c ≤ 57 := by
  have e : fgS.cps.toList = List.range' 48 10 := by decide +kernel
  rw [e, List.mem_range'_1]
  show 48 ≤ c ∧ c < 48 + 10 ↔ _
  omega
theorem at0 (c : Nat) (r : List Nat) : L2.atI (c :: r) 0 = some c := L2.atI_nat (j := 0) (xs := c :: r) rfl
/-- a text begins with "0" only where the number is zero -/
theorem nT_first {n : Nat} {c : Nat} (h : L2.atI (nT n).cps.toList 0 = some c) : c = 48 → n = 0 := by
  intro e
  subst e
  rcases Nat.eq_zero_or_pos n with z | z
  · exact z
  · obtain ⟨c, r, e, a, _⟩ := numL_head n z
    rw [nT_tl, e] at h
    rw [at0] at h
    have : c = 48 := Option.some.inj h
    omega
theorem read_whole_ok (k : Nat) {n : Nat} (h : n < 10 ^ 30) {S : Sto} {P : PV} {E : PX} (hp : P (.int (n : Nat)) S) : call Hd.T (k + 1) "read_whole" [.str (nT n)] S P E := by
  refine call_def (d := Hd.f_read_whole) rfl rfl ?_
  obtain ⟨l1, l2⟩ := nT_30 h
  have hl : (nT n).length ≤ sizeLine := Nat.le_trans l2 (by decide)
  have hi : intText? (nT n) = some (n : Int) := TL.int_num (by rw [← nT_len]; omega)
  unfold Hd.f_read_whole
  walk_at "am"
  refine ⟨hl, ?_⟩
  rw [if_pos (by omega), if_pos (by omega)]
  have body : ∀ (Γ : AM.Env), Γ = [some (.str (nT n)), none] → WSs (orc Hd.T k) (Sms.cons (Sm.for_ (Tg.name 1) (It.seq (Ex.var 0)) (Sms.cons (Sm.ite (Te.val (Ex.cmp Cop.notin (Ex.var 1) (Ex.glob (Str.ofString "FIGURES")))) (Sms.cons (Sm.raise (Str.ofString "NoText")) Sms.nil) Sms.nil) Sms.nil)) (Sms.cons (Sm.ret (Ex.blt Bf.int (Exs.cons (Ex.var 0) Exs.nil))) Sms.nil)) { nx := fun x S' => fin S P Va.non S', rt := fin S P, ex := fun x x_1 S' => finX S E x S' } Γ S := by
    rintro _ rfl
    refine seq_cut (call_mono _ k) (fun Γ S' => S = S' ∧ ∃ o, Γ = [some (.str (nT n)), o]) ?_ ?_
    · walk_at "am"
      refine for_ix (call_mono _ k) (fun i Γ S' => S = S' ∧ ∃ o, Γ = [some (.str (nT n)), o]) ⟨rfl, none, rfl⟩ ?_ ?_
      · rintro i x Γ S' hx ⟨rfl, o, rfl⟩
        rw [List.getElem?_map] at hx
        obtain ⟨c, hc, rfl⟩ := Option.map_eq_some_iff.mp hx
        have hc2 := nT_sign n c (List.mem_of_getElem? hc)
        refine ⟨_, rfl, ?_⟩
        walk_at "am"
        refine ⟨.str fgS, rfl, ?_⟩
        walk_at "am"
        refine ⟨rfl, ?_⟩
        rw [if_pos (fg_mem.mpr hc2)]
        exact ⟨_, rfl⟩
      · rintro Γ S' ⟨rfl, o, rfl⟩
        exact ⟨rfl, o, rfl⟩
    · rintro Γ S' ⟨rfl, o, rfl⟩
      walk_at "am"
      exact ⟨n, hi, by omega, fin_keep hp⟩
  have hat : ∃ c, L2.atI (nT n).cps.toList 0 = some c := by
    cases e : (nT n).cps.toList with
    | nil =>
      have : (nT n).length = 0 := by rw [show (nT n).length = (nT n).cps.toList.length by simp [Str.length], e]; rfl
      omega
    | cons c r => exact ⟨c, at0 c r⟩
  obtain ⟨c, hc⟩ := hat
  refine ⟨c, hl, hc, ?_⟩
  split
  · rename_i e
    have e2 : c = 48 := by
      have := congrArg (fun s : Str => s.cps.toList) e
      have z : (Str.ofString "0").cps.toList = [48] := by decide +kernel
      simp only [z] at this
      simpa using this
    have n0 := nT_first hc e2
    have l0 : (nT n).length = 1 := by rw [nT_len, n0, TL.numL_lt (by decide)]; rfl
    refine ⟨hl, ?_⟩
    rw [if_neg (by omega)]
    exact body _ rfl
  · exact body _ rfl
/-- a share's text -/
def slash : Str := Str.ofString "/"
def shT (a b : Nat) : Str := if b = 1 then nT a else nT a ++ slash ++ nT b
theorem slash_cps : TL.tl slash = [47] := by decide +kernel
theorem nT_free (n s : Nat) (h : s < 48 ∨ 57 < s) : s ∉ TL.tl (nT n) := by
  have e : TL.tl (nT n) = TL.numL n := TL.tl_num n
  rw [e]
  exact TL.numL_free h
theorem shT_par {a b : Nat} : Txt.partition (shT a b) slash = if b = 1 then (nT a, Str.empty, Str.empty) else (nT a, slash, nT b) := by
  unfold shT
  split
  · exact TL.partition_none slash_cps (nT_free a 47 (by omega))
  · exact TL.partition_app slash_cps (nT_free a 47 (by omega))
theorem app_len (a b : Str) : (a ++ b).length = a.length + b.length := by
  show (a.cps ++ b.cps).size = _
  rw [Array.size_append]; rfl
theorem shT_len {a b : Nat} (ha : a < 10 ^ 30) (hb : b < 10 ^ 30) : (shT a b).length ≤ 61 := by
  have h1 := (nT_30 ha).2
  have h2 := (nT_30 hb).2
  unfold shT
  split
  · omega
  · rw [app_len, app_len]
    have : slash.length = 1 := by decide +kernel
    omega
theorem read_share_ok (k : Nat) {a b : Nat} (ha : a < 10 ^ 30) (hb : b < 10 ^ 30) (h1 : 1 ≤ b) {S : Sto} {P : PV} {E : PX} (hp : P (.tup [.int (a : Nat), .int (b : Nat)]) S) : call Hd.T (k + 2) "read_share" [.str (shT a b)] S P E := by
  refine call_def (d := Hd.f_read_share) rfl rfl ?_
  have hl : (shT a b).length ≤ sizeLine := Nat.le_trans (shT_len ha hb) (by decide)
  have hq := shT_par (a := a) (b := b)
  unfold slash at hq
  unfold Hd.f_read_share
  walk_at "am"
  refine ⟨by decide +kernel, hl, ?_⟩
  rw [hq]
  by_cases e : b = 1
  · rw [if_pos e]
    subst e
    rw [if_pos (show Str.empty = Str.ofString "" from rfl)]
    exact read_whole_ok k ha (fin_keep hp)
  · rw [if_neg e]
    rw [if_neg (show ¬ Str.ofString "/" = Str.ofString "" by decide +kernel)]
    refine read_whole_ok k ha ?_
    refine read_whole_ok k hb ?_
    walk_at "am"
    rw [if_neg (by omega)]
    exact fin_keep hp
theorem lg {a : Nat} (h : a < 10 ^ 300) : ((a : Nat) : Int).natAbs.log2 < 1920 := by
  rw [Int.natAbs_natCast]
  rcases Nat.eq_zero_or_pos a with z | z
  · rw [z]; decide +kernel
  · exact (Nat.log2_lt (by omega)).mpr (Nat.lt_of_lt_of_le h (by decide +kernel))
theorem nT_300 {n : Nat} (h : n < 10 ^ 300) : (nT n).length ≤ 300 := by
  rw [nT_len]
  exact TL.numL_len (k := 300) (by decide) h
theorem lt300 {n : Nat} (h : n < 10 ^ 30) : n < 10 ^ 300 := Nat.lt_of_lt_of_le h (by decide +kernel)
/-- a top as it comes, a bottom -/
theorem show_share_ok (k : Nat) {a b : Nat} (ha : a < 10 ^ 300) (hb : b < 10 ^ 30) {S : Sto} {P : PV} {E : PX} (hp : P (.str (shT a b)) S) : call Hd.T (k + 1) "show_share" [.int (a : Nat), .int (b : Nat)] S P E := by
  refine call_def (d := Hd.f_show_share) rfl rfl ?_
  unfold Hd.f_show_share
  walk_at "am"
  have la := nT_300 ha
  have lb := nT_300 (lt300 hb)
  have ls : slash.length = 1 := by decide +kernel
  have hz : (1000 : Nat) ≤ sizeLine := by decide
  split
  · rename_i e
    have e : b = 1 := by omega
    rw [show shT a b = nT a from if_pos e] at hp
    exact ⟨lg ha, fin_keep hp⟩
  · rename_i e
    have e : ¬ b = 1 := by omega
    rw [show shT a b = nT a ++ slash ++ nT b from if_neg e] at hp
    refine ⟨lg ha, ?_, lg (lt300 hb), ?_, fin_keep hp⟩
    · show (nT a).length + slash.length ≤ _
      omega
    · show (nT a ++ slash).length + (nT b).length ≤ _
      rw [app_len]
      omega
/-- a fraction's text and the fraction -/
theorem read_fraction_ok (k : Nat) (r : Rat) {a b : Nat} (ea : r.num = (a : Nat)) (eb : r.den = b) (ha : a < 10 ^ 30) (hb : b < 10 ^ 30) {S : Sto} {P : PV} {E : PX} (hp : P (.tup [.int (a : Nat), .int (b : Nat)]) S) : call Hd.T (k + 3) "read_fraction" [.str (shT a b)] S P E := by
  refine call_def (d := Hd.f_read_fraction) rfl rfl ?_
  have h1 : 1 ≤ b := by have := r.den_pos; omega
  unfold Hd.f_read_fraction
  walk_at "am"
  refine read_share_ok k ha hb h1 ?_
  walk_at "am"
  refine FR.fraction_ok (T := Hd.T) rfl rfl k _ _ (by omega) (n := 100) ?_ (by omega) ?_
  · show (((b : Nat) : Int)).natAbs < 2 ^ 100
    rw [Int.natAbs_natCast]
    exact Nat.lt_of_lt_of_le hb (by decide +kernel)
  have e : Rat.divInt (a : Nat) (b : Nat) = r := by rw [← ea, ← eb]; exact Rat.num_divInt_den r
  rw [e]
  unfold FR.Qv
  rw [ea, eb]
  walk_at "am"
  refine .inr ⟨.tuple [.int (a : Nat), .int (b : Nat)], .tuple [.int (a : Nat), .int (b : Nat)], .tup (.cons (.int _) (.cons (.int _) .nil)), .tup (.cons (.int _) (.cons (.int _) .nil)), rfl, rfl, ?_⟩
  rw [show PyData.eqv (.tuple [.int (a : Nat), .int (b : Nat)]) (.tuple [.int (a : Nat), .int (b : Nat)]) = true by simp [PyData.eqv, PyData.eqvAll]]
  refine ⟨false, rfl, ?_⟩
  rw [if_neg (by decide)]
  exact fin_keep hp
theorem show_fraction_ok (k : Nat) {a b : Nat} (ha : a < 10 ^ 300) (hb : b < 10 ^ 30) {S : Sto} {P : PV} {E : PX} (hp : P (.str (shT a b)) S) : call Hd.T (k + 2) "show_fraction" [.tup [.int (a : Nat), .int (b : Nat)]] S P E := by
  refine call_def (d := Hd.f_show_fraction) rfl rfl ?_
  unfold Hd.f_show_fraction
  walk_at "am"
  exact show_share_ok k ha hb (fin_keep hp)
/-- a value as this law draws it -/
inductive Vw where
  | hand
  | start
  | word (w : Str)
  | num (a b : Nat)
  | of (w : Str) (a b : Nat)
  | part (a b : Nat)
  | times (a b : Nat)
def Vw.va : Vw → Va
  | .hand => .tup [.str (Str.ofString "hand")]
  | .start => .tup [.str (Str.ofString "start")]
  | .word w => .tup [.str (Str.ofString "word"), .str w]
  | .num a b => .tup [.str (Str.ofString "number"), .int (a : Nat), .int (b : Nat)]
  | .of w a b => .tup [.str (Str.ofString "of"), .str w, .int (a : Nat), .int (b : Nat)]
  | .part a b => .tup [.str (Str.ofString "part"), .int (a : Nat), .int (b : Nat)]
  | .times a b => .tup [.str (Str.ofString "times"), .int (a : Nat), .int (b : Nat)]
def ofS : Str := Str.ofString " of "
def blk : Str := Str.ofString " "
def Vw.tx : Vw → Str
  | .hand => Str.ofString "hand"
  | .start => Str.ofString "start"
  | .word w => w
  | .num a b => shT a b
  | .of w a b => shT a b ++ ofS ++ w
  | .part a b => shT a b ++ blk ++ Str.ofString "part"
  | .times a b => shT a b ++ blk ++ Str.ofString "times"
/-- sizes of a shown value -/
def Vw.Ok : Vw → Prop
  | .word w => w.length ≤ 100
  | .num a b => a < 10 ^ 300 ∧ b < 10 ^ 30
  | .of w a b => w.length ≤ 100 ∧ a < 10 ^ 300 ∧ b < 10 ^ 30
  | .part a b => a < 10 ^ 300 ∧ b < 10 ^ 30
  | .times a b => a < 10 ^ 300 ∧ b < 10 ^ 30
  | _ => True
theorem shT_300 {a b : Nat} (ha : a < 10 ^ 300) (hb : b < 10 ^ 30) : (shT a b).length ≤ 601 ∧ 100000 ≤ sizeLine := by
  have h1 := nT_300 ha
  have h2 := nT_300 (lt300 hb)
  refine ⟨?_, by decide⟩
  unfold shT
  split
  · omega
  · rw [app_len, app_len]
    have : slash.length = 1 := by decide +kernel
    omega
theorem show_value_ok (k : Nat) (v : Vw) (h : v.Ok) {S : Sto} {P : PV} {E : PX} (hp : P (.str v.tx) S) : call Hd.T (k + 2) "show_value" [v.va] S P E := by
  refine call_def (d := Hd.f_show_value) rfl rfl ?_
  unfold Hd.f_show_value
  cases v <;> unfold Vw.va
  all_goals walk_at "am"
  · exact fin_keep hp
  · rw [if_neg (by decide +kernel)]
    exact fin_keep hp
  · rw [if_neg (by decide +kernel), if_neg (by decide +kernel)]
    exact fin_keep hp
  · rw [if_neg (by decide +kernel), if_neg (by decide +kernel), if_neg (by decide +kernel), if_neg (by decide +kernel)]
    exact show_share_ok k h.1 h.2 (fin_keep hp)
  · rename_i w a b
    rw [if_neg (by decide +kernel), if_neg (by decide +kernel), if_neg (by decide +kernel)]
    have l := shT_300 h.2.1 h.2.2
    have lw := h.1
    refine show_share_ok k h.2.1 h.2.2 ?_
    walk_at "am"
    refine ⟨?_, ?_, fin_keep hp⟩
    · have : (Str.ofString " of ").length = 4 := by decide +kernel
      omega
    · rw [app_len]
      have : (Str.ofString " of ").length = 4 := by decide +kernel
      omega
  · rename_i a b
    rw [if_neg (by decide +kernel), if_neg (by decide +kernel), if_neg (by decide +kernel), if_neg (by decide +kernel), if_neg (by decide +kernel)]
    have l := shT_300 h.1 h.2
    refine show_share_ok k h.1 h.2 ?_
    walk_at "am"
    refine ⟨?_, ?_, fin_keep hp⟩
    · have : (Str.ofString " ").length = 1 := by decide +kernel
      omega
    · rw [app_len]
      have : (Str.ofString " ").length = 1 := by decide +kernel
      have : (Str.ofString "part").length = 4 := by decide +kernel
      omega
  · rename_i a b
    rw [if_neg (by decide +kernel), if_neg (by decide +kernel), if_neg (by decide +kernel), if_neg (by decide +kernel), if_neg (by decide +kernel)]
    have l := shT_300 h.1 h.2
    refine show_share_ok k h.1 h.2 ?_
    walk_at "am"
    refine ⟨?_, ?_, fin_keep hp⟩
    · have : (Str.ofString " ").length = 1 := by decide +kernel
      omega
    · rw [app_len]
      have : (Str.ofString " ").length = 1 := by decide +kernel
      have : (Str.ofString "times").length = 5 := by decide +kernel
      omega
end NB
end

section
set_option linter.all false
set_option maxRecDepth 100000
set_option maxHeartbeats 4000000
/-! A law's tables for names, pools, traits. -/
open PySem
namespace AM
section
variable {C : Orc} {Γ : Env} {S : Sto} {P : PV} {E : PX}
theorem W_dpop1 {o k} : W C (.dpop1 o k) Γ S P E = W C o Γ S (fun x S1 => isD S1 x ∧ W C k Γ S1 (fun y S2 => ∃ n, x = .loc n ∧ ∃ kvs, S2[n]? = some (.dct kvs) ∧ ∃ kk, keyV y = some kk ∧ ∃ v, dget kvs kk = some v ∧ P v (S2.set n (.dct (ddrop kvs kk)))) E) E := rfl
theorem m_remove {k x} : wMth .remove (.loc k) [.int x] S P = ∃ (ns : List Int) (j : Nat), S[k]? = some (.lst (ns.map Va.int)) ∧ ns[j]? = some x ∧ (∀ m : Nat, m < j → ns[m]? ≠ some x) ∧ P .non (S.set k (.lst ((ns.eraseIdx j).map Va.int))) := rfl
theorem isD_loc {k kvs} (h : S[k]? = some (.dct kvs)) : isD S (.loc k) := ⟨kvs, .inr ⟨k, rfl, h⟩⟩
end
/-- a try: how its body is left, then its suite -/
theorem try_cut {C : Orc} (hC : OrcMono C) {b : Sms} {x : Str} {o : Option Nat} {su : Sms} {D : AEnds} {Γ : Env} {S : Sto} (Q : Str → Env → Sto → Prop) (h1 : WSs C b { D with ex := Q } Γ S)
    (h2 : ∀ c Γ' S', Q c Γ' S' → ∃ kk, C.xk c x = some kk ∧ if kk = true then ∀ a, WSs { C with cur := some (a, c) } su (offD o D) (onE o a Γ') S' else D.ex c Γ' S') : WS C (.try_ b x o su) D Γ S := by
  rw [WS_try]
  exact WSs_mono hC b { D with ex := Q } { D with ex := fun c Γ' S' => ∃ kk, C.xk c x = some kk ∧ if kk = true then ∀ a, WSs { C with cur := some (a, c) } su (offD o D) (onE o a Γ') S' else D.ex c Γ' S' } Γ S ⟨fun _ _ z => z, fun _ _ z => z, fun _ _ z => z, fun _ _ z => z, fun c Γ' S' z => h2 c Γ' S' z⟩ h1
end AM
namespace TV
open PySem AM NM
local macro_rules | `(tactic| walk_at "am") => `(tactic| try simp only [st_set0, st_setS, iteTrue, iteFalse, iteDec, iteNDec, exSome, exBl, W_var, W_int, W_bl, W_non, W_str, W_tup, W_lst, W_bin, W_neg, W_cmp, W_isN, W_notN, W_lrev, W_maxd, W_sortk, wIsb, wNisb, W_chain, W_chain3, W_tst, W_ite, W_call, W_len, W_abs, W_isi, W_sub, WT_val, WT_not, WT_and, WT_or, WA_one, WA_cons, WO_one, WO_cons, WB_val, WB_not, WB_and, WB_or, WBA_one, WBA_cons, WBO_one, WBO_cons, WL_nil, WL_cons, WS_set, WS_ret, WS_retN, WS_pass, WS_brk, WS_cont, WS_drop, WS_ite, WS_raise, WSs_nil, Ss_set, Ss_ret, Ss_retN, Ss_pass, Ss_brk, Ss_cont, Ss_drop, Ss_raise, Ss_ite_ret, Ss_ite_retN, Ss_ite_raise, Ss_ite_cont, Ss_ite_brk, Ss_ite_last, gt_0, gt_S, wAdd_int, wSub_int, wMul_int, wMul_rep, wMul_str, wDiv_int, wMod_int, wPow_int, wAdd_str, wNeg_int, wAbs_int, wLt_int, wLe_int, wGt_int, wGe_int, wEq_int, wNe_int, wEq_bl, wNe_bl, wEq_str, wNe_str, wLen_tup, wLen_lst, tru_bl, tru_int, ty_int_int, ty_int_bool, ty_int_str, ty_int_tuple, ty_int_list, ty_int_dict, ty_bl_int, ty_bl_bool, ty_bl_str, ty_bl_tuple, ty_bl_list, ty_bl_dict, ty_str_int, ty_str_bool, ty_str_str, ty_str_tuple, ty_str_list, ty_str_dict, ty_tup_int, ty_tup_bool, ty_tup_str, ty_tup_tuple, ty_tup_list, ty_tup_dict, ty_lst_int, ty_lst_bool, ty_lst_str, ty_lst_tuple, ty_lst_list, ty_lst_dict, ty_dct_int, ty_dct_bool, ty_dct_str, ty_dct_tuple, ty_dct_list, ty_dct_dict, ty_non, sub_tup0, sub_tup1, sub_tup2, sub_tup3, sub_tup4, sub_tup5, sub_lst0, sub_lst1, sub_lst2, sub_lst3, sub_lst4, sub_lst5, startA, List.map_cons, List.map_nil, List.length_cons, List.length_nil, List.replicate, List.cons_append, List.nil_append, true_and, and_true, ne_eq, isNon, Bool.not_true, Bool.not_false, Bool.true_or, Bool.or_true, Bool.false_or, reduceIte, Nat.reduceAdd, Nat.zero_add, Int.cast_ofNat_Int, Int.reduceEq, Int.reduceLT, Int.reduceLE, Nat.reduceLeDiff, decide_true, decide_false, not_true_eq_false, not_false_eq_true, Nat.reduceSub, Int.reduceToNat, W_slice, W_blt, W_mth, W_comp, WOe_none, WOe_some, WI_seq, WI_keys, WI_items, WI_range1, WI_range2, WI_enum, WI_zip, WI_rev, WI_revr, WI_rangeD, WT0_none, WT0_some, Ss_asg, Ss_setSub, Ss_aug, WS_asg, WS_aug, WS_for, WS_setC, bT_name, bT_tup, bT_lst, bTs_nil, bTs_name, seq_lst, seq_tup, seq_scr, seq_str, seq_loc, en_tup, en_lst, en_scr, en_loc, lst_lst, lst_scr, lst_loc, exInt, exLoc, exLst, exLst1, exLV_lst, exLV_loc, mOk_app, mOk_pop, mOk_ext, mOk_ins, mOk_ind, mOk_join, mOk_indl, m_append, m_pop, m_extend, m_insert, m_join, b_listL, b_listT, b_listS, b_listK, b_tupL, b_tupT, b_tupK, b_max2, b_min2, b_ord, b_str, sl_lst, sl_loc, sl_scr, sl_tupE, sl_strE, cat_lst, cat_loc, cat_tup, wLen_scr, wLen_loc, wLen_str, wSub_scr, wSub_loc, wSub_str, aug_add, aug_sub, tru_lst, tru_tup, tru_non, ty_scr_list, sg_p0, sg_pl, ss_p0, ss_pl, ob_set0, ob_set1, ob_set2, ob_set3, ob_g0, ob_g1, ob_g2, ob_g3, List.append_assoc, List.length_append, List.nil_append, Nat.add_zero, Nat.add_assoc, Int.reduceNeg, wipeA, orc_run, orc_glob, orc_init, orc_isa, orc_gdct, W_isc, W_isE, W_isEt, orc_xk, m_upper, m_partition, m_split, m_endswith, m_find, mOk_upper, mOk_partition, mOk_split, mOk_endswith, mOk_find, b_intB, W_glob, W_gget, W_fld, W_mcall, W_make, W_make0, W_dsp, Ss_setFld, subO_l, subO_d, subO_k, lenO_l, lenO_d, listO_l, listO_d, putO_l, keyV_int, keyV_str, wIn_str, wNotin_str, mapSome, at_0, at_1, at_2, at_3, at_4, at_5, ix_1_0, ix_2_0, ix_2_1, ix_3_0, ix_3_1, ix_3_2, ix_4_0, ix_4_1, ix_4_2, ix_4_3, va_s0, va_s1, va_s2, va_s3])
local macro_rules | `(tactic| walk_at "if") => `(tactic| (try simp only []); rw [Ss_ite]; simp only [st_set0, st_setS, iteTrue, iteFalse, iteDec, iteNDec, exSome, exBl, W_var, W_int, W_bl, W_non, W_str, W_tup, W_lst, W_bin, W_neg, W_cmp, W_isN, W_notN, W_lrev, W_maxd, W_sortk, wIsb, wNisb, W_chain, W_chain3, W_tst, W_ite, W_call, W_len, W_abs, W_isi, W_sub, WT_val, WT_not, WT_and, WT_or, WA_one, WA_cons, WO_one, WO_cons, WB_val, WB_not, WB_and, WB_or, WBA_one, WBA_cons, WBO_one, WBO_cons, WL_nil, WL_cons, WS_set, WS_ret, WS_retN, WS_pass, WS_brk, WS_cont, WS_drop, WS_ite, WS_raise, WSs_nil, Ss_set, Ss_ret, Ss_retN, Ss_pass, Ss_brk, Ss_cont, Ss_drop, Ss_raise, Ss_ite_ret, Ss_ite_retN, Ss_ite_raise, Ss_ite_cont, Ss_ite_brk, Ss_ite_last, gt_0, gt_S, wAdd_int, wSub_int, wMul_int, wMul_rep, wMul_str, wDiv_int, wMod_int, wPow_int, wAdd_str, wNeg_int, wAbs_int, wLt_int, wLe_int, wGt_int, wGe_int, wEq_int, wNe_int, wEq_bl, wNe_bl, wEq_str, wNe_str, wLen_tup, wLen_lst, tru_bl, tru_int, ty_int_int, ty_int_bool, ty_int_str, ty_int_tuple, ty_int_list, ty_int_dict, ty_bl_int, ty_bl_bool, ty_bl_str, ty_bl_tuple, ty_bl_list, ty_bl_dict, ty_str_int, ty_str_bool, ty_str_str, ty_str_tuple, ty_str_list, ty_str_dict, ty_tup_int, ty_tup_bool, ty_tup_str, ty_tup_tuple, ty_tup_list, ty_tup_dict, ty_lst_int, ty_lst_bool, ty_lst_str, ty_lst_tuple, ty_lst_list, ty_lst_dict, ty_dct_int, ty_dct_bool, ty_dct_str, ty_dct_tuple, ty_dct_list, ty_dct_dict, ty_non, sub_tup0, sub_tup1, sub_tup2, sub_tup3, sub_tup4, sub_tup5, sub_lst0, sub_lst1, sub_lst2, sub_lst3, sub_lst4, sub_lst5, startA, List.map_cons, List.map_nil, List.length_cons, List.length_nil, List.replicate, List.cons_append, List.nil_append, true_and, and_true, ne_eq, isNon, Bool.not_true, Bool.not_false, Bool.true_or, Bool.or_true, Bool.false_or, reduceIte, Nat.reduceAdd, Nat.zero_add, Int.cast_ofNat_Int, Int.reduceEq, Int.reduceLT, Int.reduceLE, Nat.reduceLeDiff, decide_true, decide_false, not_true_eq_false, not_false_eq_true, Nat.reduceSub, Int.reduceToNat, W_slice, W_blt, W_mth, W_comp, WOe_none, WOe_some, WI_seq, WI_keys, WI_items, WI_range1, WI_range2, WI_enum, WI_zip, WI_rev, WI_revr, WI_rangeD, WT0_none, WT0_some, Ss_asg, Ss_setSub, Ss_aug, WS_asg, WS_aug, WS_for, WS_setC, bT_name, bT_tup, bT_lst, bTs_nil, bTs_name, seq_lst, seq_tup, seq_scr, seq_str, seq_loc, en_tup, en_lst, en_scr, en_loc, lst_lst, lst_scr, lst_loc, exInt, exLoc, exLst, exLst1, exLV_lst, exLV_loc, mOk_app, mOk_pop, mOk_ext, mOk_ins, mOk_ind, mOk_join, mOk_indl, m_append, m_pop, m_extend, m_insert, m_join, b_listL, b_listT, b_listS, b_listK, b_tupL, b_tupT, b_tupK, b_max2, b_min2, b_ord, b_str, sl_lst, sl_loc, sl_scr, sl_tupE, sl_strE, cat_lst, cat_loc, cat_tup, wLen_scr, wLen_loc, wLen_str, wSub_scr, wSub_loc, wSub_str, aug_add, aug_sub, tru_lst, tru_tup, tru_non, ty_scr_list, sg_p0, sg_pl, ss_p0, ss_pl, ob_set0, ob_set1, ob_set2, ob_set3, ob_g0, ob_g1, ob_g2, ob_g3, List.append_assoc, List.length_append, List.nil_append, Nat.add_zero, Nat.add_assoc, Int.reduceNeg, wipeA, orc_run, orc_glob, orc_init, orc_isa, orc_gdct, W_isc, W_isE, W_isEt, orc_xk, m_upper, m_partition, m_split, m_endswith, m_find, mOk_upper, mOk_partition, mOk_split, mOk_endswith, mOk_find, b_intB, W_glob, W_gget, W_fld, W_mcall, W_make, W_make0, W_dsp, Ss_setFld, subO_l, subO_d, subO_k, lenO_l, lenO_d, listO_l, listO_d, putO_l, keyV_int, keyV_str, wIn_str, wNotin_str, mapSome, at_0, at_1, at_2, at_3, at_4, at_5, ix_1_0, ix_2_0, ix_2_1, ix_3_0, ix_3_1, ix_3_2, ix_4_0, ix_4_1, ix_4_2, ix_4_3, va_s0, va_s1, va_s2, va_s3])
end TV
namespace TR
open PySem AM NM
local macro_rules | `(tactic| walk_at "am") => `(tactic| try simp only [st_set0, st_setS, iteTrue, iteFalse, iteDec, iteNDec, exSome, exBl, W_var, W_int, W_bl, W_non, W_str, W_tup, W_lst, W_bin, W_neg, W_cmp, W_isN, W_notN, W_lrev, W_maxd, W_sortk, wIsb, wNisb, W_chain, W_chain3, W_tst, W_ite, W_call, W_len, W_abs, W_isi, W_sub, WT_val, WT_not, WT_and, WT_or, WA_one, WA_cons, WO_one, WO_cons, WB_val, WB_not, WB_and, WB_or, WBA_one, WBA_cons, WBO_one, WBO_cons, WL_nil, WL_cons, WS_set, WS_ret, WS_retN, WS_pass, WS_brk, WS_cont, WS_drop, WS_ite, WS_raise, WSs_nil, Ss_set, Ss_ret, Ss_retN, Ss_pass, Ss_brk, Ss_cont, Ss_drop, Ss_raise, Ss_ite_ret, Ss_ite_retN, Ss_ite_raise, Ss_ite_cont, Ss_ite_brk, Ss_ite_last, gt_0, gt_S, wAdd_int, wSub_int, wMul_int, wMul_rep, wMul_str, wDiv_int, wMod_int, wPow_int, wAdd_str, wNeg_int, wAbs_int, wLt_int, wLe_int, wGt_int, wGe_int, wEq_int, wNe_int, wEq_bl, wNe_bl, wEq_str, wNe_str, wLen_tup, wLen_lst, tru_bl, tru_int, ty_int_int, ty_int_bool, ty_int_str, ty_int_tuple, ty_int_list, ty_int_dict, ty_bl_int, ty_bl_bool, ty_bl_str, ty_bl_tuple, ty_bl_list, ty_bl_dict, ty_str_int, ty_str_bool, ty_str_str, ty_str_tuple, ty_str_list, ty_str_dict, ty_tup_int, ty_tup_bool, ty_tup_str, ty_tup_tuple, ty_tup_list, ty_tup_dict, ty_lst_int, ty_lst_bool, ty_lst_str, ty_lst_tuple, ty_lst_list, ty_lst_dict, ty_dct_int, ty_dct_bool, ty_dct_str, ty_dct_tuple, ty_dct_list, ty_dct_dict, ty_non, sub_tup0, sub_tup1, sub_tup2, sub_tup3, sub_tup4, sub_tup5, sub_lst0, sub_lst1, sub_lst2, sub_lst3, sub_lst4, sub_lst5, startA, List.map_cons, List.map_nil, List.length_cons, List.length_nil, List.replicate, List.cons_append, List.nil_append, true_and, and_true, ne_eq, isNon, Bool.not_true, Bool.not_false, Bool.true_or, Bool.or_true, Bool.false_or, reduceIte, Nat.reduceAdd, Nat.zero_add, Int.cast_ofNat_Int, Int.reduceEq, Int.reduceLT, Int.reduceLE, Nat.reduceLeDiff, decide_true, decide_false, not_true_eq_false, not_false_eq_true, Nat.reduceSub, Int.reduceToNat, W_slice, W_blt, W_mth, W_comp, WOe_none, WOe_some, WI_seq, WI_keys, WI_items, WI_range1, WI_range2, WI_enum, WI_zip, WI_rev, WI_revr, WI_rangeD, WT0_none, WT0_some, Ss_asg, Ss_setSub, Ss_aug, WS_asg, WS_aug, WS_for, WS_setC, bT_name, bT_tup, bT_lst, bTs_nil, bTs_name, seq_lst, seq_tup, seq_scr, seq_str, seq_loc, en_tup, en_lst, en_scr, en_loc, lst_lst, lst_scr, lst_loc, exInt, exLoc, exLst, exLst1, exLV_lst, exLV_loc, mOk_app, mOk_pop, mOk_ext, mOk_ins, mOk_ind, mOk_join, mOk_indl, m_append, m_pop, m_extend, m_insert, m_join, b_listL, b_listT, b_listS, b_listK, b_tupL, b_tupT, b_tupK, b_max2, b_min2, b_ord, b_str, sl_lst, sl_loc, sl_scr, sl_tupE, sl_strE, cat_lst, cat_loc, cat_tup, wLen_scr, wLen_loc, wLen_str, wSub_scr, wSub_loc, wSub_str, aug_add, aug_sub, tru_lst, tru_tup, tru_non, ty_scr_list, sg_p0, sg_pl, ss_p0, ss_pl, ob_set0, ob_set1, ob_set2, ob_set3, ob_g0, ob_g1, ob_g2, ob_g3, List.append_assoc, List.length_append, List.nil_append, Nat.add_zero, Nat.add_assoc, Int.reduceNeg, wipeA, orc_run, orc_glob, orc_init, orc_isa, orc_gdct, W_isc, W_isE, W_isEt, orc_xk, m_upper, m_partition, m_split, m_endswith, m_find, mOk_upper, mOk_partition, mOk_split, mOk_endswith, mOk_find, b_intB, W_glob, W_gget, W_fld, W_mcall, W_make, W_make0, W_dsp, Ss_setFld, subO_l, subO_d, subO_k, lenO_l, lenO_d, listO_l, listO_d, putO_l, keyV_int, keyV_str, wIn_str, wNotin_str, mapSome, at_0, at_1, at_2, at_3, at_4, at_5, ix_1_0, ix_2_0, ix_2_1, ix_3_0, ix_3_1, ix_3_2, ix_4_0, ix_4_1, ix_4_2, ix_4_3, va_s0, va_s1, va_s2, va_s3])
local macro_rules | `(tactic| walk_at "if") => `(tactic| (try simp only []); rw [Ss_ite]; simp only [st_set0, st_setS, iteTrue, iteFalse, iteDec, iteNDec, exSome, exBl, W_var, W_int, W_bl, W_non, W_str, W_tup, W_lst, W_bin, W_neg, W_cmp, W_isN, W_notN, W_lrev, W_maxd, W_sortk, wIsb, wNisb, W_chain, W_chain3, W_tst, W_ite, W_call, W_len, W_abs, W_isi, W_sub, WT_val, WT_not, WT_and, WT_or, WA_one, WA_cons, WO_one, WO_cons, WB_val, WB_not, WB_and, WB_or, WBA_one, WBA_cons, WBO_one, WBO_cons, WL_nil, WL_cons, WS_set, WS_ret, WS_retN, WS_pass, WS_brk, WS_cont, WS_drop, WS_ite, WS_raise, WSs_nil, Ss_set, Ss_ret, Ss_retN, Ss_pass, Ss_brk, Ss_cont, Ss_drop, Ss_raise, Ss_ite_ret, Ss_ite_retN, Ss_ite_raise, Ss_ite_cont, Ss_ite_brk, Ss_ite_last, gt_0, gt_S, wAdd_int, wSub_int, wMul_int, wMul_rep, wMul_str, wDiv_int, wMod_int, wPow_int, wAdd_str, wNeg_int, wAbs_int, wLt_int, wLe_int, wGt_int, wGe_int, wEq_int, wNe_int, wEq_bl, wNe_bl, wEq_str, wNe_str, wLen_tup, wLen_lst, tru_bl, tru_int, ty_int_int, ty_int_bool, ty_int_str, ty_int_tuple, ty_int_list, ty_int_dict, ty_bl_int, ty_bl_bool, ty_bl_str, ty_bl_tuple, ty_bl_list, ty_bl_dict, ty_str_int, ty_str_bool, ty_str_str, ty_str_tuple, ty_str_list, ty_str_dict, ty_tup_int, ty_tup_bool, ty_tup_str, ty_tup_tuple, ty_tup_list, ty_tup_dict, ty_lst_int, ty_lst_bool, ty_lst_str, ty_lst_tuple, ty_lst_list, ty_lst_dict, ty_dct_int, ty_dct_bool, ty_dct_str, ty_dct_tuple, ty_dct_list, ty_dct_dict, ty_non, sub_tup0, sub_tup1, sub_tup2, sub_tup3, sub_tup4, sub_tup5, sub_lst0, sub_lst1, sub_lst2, sub_lst3, sub_lst4, sub_lst5, startA, List.map_cons, List.map_nil, List.length_cons, List.length_nil, List.replicate, List.cons_append, List.nil_append, true_and, and_true, ne_eq, isNon, Bool.not_true, Bool.not_false, Bool.true_or, Bool.or_true, Bool.false_or, reduceIte, Nat.reduceAdd, Nat.zero_add, Int.cast_ofNat_Int, Int.reduceEq, Int.reduceLT, Int.reduceLE, Nat.reduceLeDiff, decide_true, decide_false, not_true_eq_false, not_false_eq_true, Nat.reduceSub, Int.reduceToNat, W_slice, W_blt, W_mth, W_comp, WOe_none, WOe_some, WI_seq, WI_keys, WI_items, WI_range1, WI_range2, WI_enum, WI_zip, WI_rev, WI_revr, WI_rangeD, WT0_none, WT0_some, Ss_asg, Ss_setSub, Ss_aug, WS_asg, WS_aug, WS_for, WS_setC, bT_name, bT_tup, bT_lst, bTs_nil, bTs_name, seq_lst, seq_tup, seq_scr, seq_str, seq_loc, en_tup, en_lst, en_scr, en_loc, lst_lst, lst_scr, lst_loc, exInt, exLoc, exLst, exLst1, exLV_lst, exLV_loc, mOk_app, mOk_pop, mOk_ext, mOk_ins, mOk_ind, mOk_join, mOk_indl, m_append, m_pop, m_extend, m_insert, m_join, b_listL, b_listT, b_listS, b_listK, b_tupL, b_tupT, b_tupK, b_max2, b_min2, b_ord, b_str, sl_lst, sl_loc, sl_scr, sl_tupE, sl_strE, cat_lst, cat_loc, cat_tup, wLen_scr, wLen_loc, wLen_str, wSub_scr, wSub_loc, wSub_str, aug_add, aug_sub, tru_lst, tru_tup, tru_non, ty_scr_list, sg_p0, sg_pl, ss_p0, ss_pl, ob_set0, ob_set1, ob_set2, ob_set3, ob_g0, ob_g1, ob_g2, ob_g3, List.append_assoc, List.length_append, List.nil_append, Nat.add_zero, Nat.add_assoc, Int.reduceNeg, wipeA, orc_run, orc_glob, orc_init, orc_isa, orc_gdct, W_isc, W_isE, W_isEt, orc_xk, m_upper, m_partition, m_split, m_endswith, m_find, mOk_upper, mOk_partition, mOk_split, mOk_endswith, mOk_find, b_intB, W_glob, W_gget, W_fld, W_mcall, W_make, W_make0, W_dsp, Ss_setFld, subO_l, subO_d, subO_k, lenO_l, lenO_d, listO_l, listO_d, putO_l, keyV_int, keyV_str, wIn_str, wNotin_str, mapSome, at_0, at_1, at_2, at_3, at_4, at_5, ix_1_0, ix_2_0, ix_2_1, ix_3_0, ix_3_1, ix_3_2, ix_4_0, ix_4_1, ix_4_2, ix_4_3, va_s0, va_s1, va_s2, va_s3])
def nmT : NmT Hd.T := ⟨rfl, rfl, rfl⟩
theorem nm_sok {cs : List Nat} (h : Nm cs) : PyData.strOk (sx cs) = true := by
  unfold PyData.strOk sx
  simp only [List.all_toArray, List.all_eq_true, decide_eq_true_eq]
  exact fun c hc => by have := h.let_ c hc; omega
theorem isname_ok (k : Nat) (cs : List Nat) (hn : Nm cs) {S : Sto} {P : PV} {E : PX} (h : P (.bl true) S) : call Hd.T (k + 1) "is_name" [.str (sx cs)] S P E := by
  refine call_def (d := Hd.f_is_name) rfl rfl ?_
  unfold Hd.f_is_name
  walk_at "am"
  have p1 := hn.pos
  have p2 := hn.max
  rw [sx_len]
  refine ⟨Nat.le_trans p2 (by decide), ?_⟩
  rw [if_pos (by omega), if_pos (by omega)]
  refine seq_cut (call_mono _ k) (fun Γ S' => S = S' ∧ ∃ o, Γ = [some (.str (sx cs)), o]) ?_ ?_
  · walk_at "am"
    refine for_ix (call_mono _ k) (fun i Γ S' => S = S' ∧ ∃ o, Γ = [some (.str (sx cs)), o]) ⟨rfl, none, rfl⟩ ?_ ?_
    · rintro i x Γ S' hx ⟨rfl, o, rfl⟩
      rw [List.getElem?_map] at hx
      obtain ⟨c, hc, rfl⟩ := Option.map_eq_some_iff.mp hx
      have hc' : cs[i]? = some c := by simpa [sx] using hc
      have hL := hn.let_ c (List.mem_of_getElem? hc')
      refine ⟨_, rfl, ?_⟩
      walk_at "am"
      refine ⟨.str sL, rfl, ?_⟩
      walk_at "am"
      refine ⟨rfl, ?_⟩
      have e3 : ((⟨#[c]⟩ : Str).cps.getD 0 0) ∈ sL.cps.toList := by
        have e : sL.cps.toList = List.range' 97 26 := by decide +kernel
        rw [e, List.mem_range'_1]
        show 97 ≤ c ∧ c < 97 + 26
        omega
      rw [if_pos e3]
      exact ⟨_, rfl⟩
    · rintro Γ S' ⟨rfl, o, rfl⟩
      exact ⟨rfl, o, rfl⟩
  rintro Γ' S' ⟨rfl, o, rfl⟩
  walk_at "am"
  exact fin_keep h
def nmb (cs : List Nat) : Bool := decide (1 ≤ cs.length) && decide (cs.length ≤ 8) && cs.all fun c => decide (97 ≤ c ∧ c ≤ 122)
theorem nmb_iff {cs : List Nat} : nmb cs = true ↔ Nm cs := by
  unfold nmb
  rw [Bool.and_eq_true, Bool.and_eq_true, decide_eq_true_iff, decide_eq_true_iff, List.all_eq_true]
  constructor
  · rintro ⟨⟨h1, h2⟩, h3⟩
    exact ⟨h1, h2, fun c hc => of_decide_eq_true (h3 c hc)⟩
  · rintro ⟨h1, h2, h3⟩
    exact ⟨⟨h1, h2⟩, fun c hc => decide_eq_true (h3 c hc)⟩
theorem isname_gen (k : Nat) (cs : List Nat) (hl : cs.length ≤ 1000) {S : Sto} {P : PV} {E : PX} (h : P (.bl (nmb cs)) S) : call Hd.T (k + 1) "is_name" [.str (sx cs)] S P E := by
  refine call_def (d := Hd.f_is_name) rfl rfl ?_
  unfold Hd.f_is_name
  walk_at "am"
  rw [sx_len]
  refine ⟨Nat.le_trans hl (by decide), ?_⟩
  have no : nmb cs = false → fin S P (.bl false) S := fun e => fin_keep (by rw [e] at h; exact h)
  split
  case' isFalse => exact no (Bool.eq_false_iff.mpr fun z => by have := (nmb_iff.mp z).pos; omega)
  split
  case' isFalse => exact no (Bool.eq_false_iff.mpr fun z => by have := (nmb_iff.mp z).max; omega)
  rename_i l1 l2
  refine seq_cut (call_mono _ k) (fun Γ S' => S = S' ∧ (∀ c ∈ cs, 97 ≤ c ∧ c ≤ 122) ∧ ∃ o, Γ = [some (.str (sx cs)), o]) ?_ ?_
  · walk_at "am"
    refine for_ix (call_mono _ k) (fun i Γ S' => S = S' ∧ (∀ c ∈ cs.take i, 97 ≤ c ∧ c ≤ 122) ∧ ∃ o, Γ = [some (.str (sx cs)), o]) ⟨rfl, by simp, none, rfl⟩ ?_ ?_
    · rintro i x Γ S' hx ⟨rfl, hi, o, rfl⟩
      rw [List.getElem?_map] at hx
      obtain ⟨c, hc, rfl⟩ := Option.map_eq_some_iff.mp hx
      have hc' : cs[i]? = some c := by simpa [sx] using hc
      refine ⟨_, rfl, ?_⟩
      walk_at "am"
      refine ⟨.str sL, rfl, ?_⟩
      walk_at "am"
      refine ⟨rfl, ?_⟩
      have e3 : ((⟨#[c]⟩ : Str).cps.getD 0 0) ∈ sL.cps.toList ↔ 97 ≤ c ∧ c ≤ 122 := by
        have e : sL.cps.toList = List.range' 97 26 := by decide +kernel
        rw [e, List.mem_range'_1]
        show 97 ≤ c ∧ c < 97 + 26 ↔ _
        omega
      by_cases z : 97 ≤ c ∧ c ≤ 122
      · rw [if_pos (e3.mpr z)]
        refine ⟨fun d hd => ?_, _, rfl⟩
        rw [List.take_succ, hc'] at hd
        rcases List.mem_append.mp hd with y | y
        · exact hi d y
        · rw [List.mem_singleton.mp y]; exact z
      · rw [if_neg (fun y => z (e3.mp y))]
        exact no (Bool.eq_false_iff.mpr fun y => z ((nmb_iff.mp y).let_ c (List.mem_of_getElem? hc')))
    · rintro Γ S' ⟨rfl, hi, o, rfl⟩
      refine ⟨rfl, fun c hc => hi c ?_, o, rfl⟩
      rw [List.length_map]
      have : (sx cs).cps.toList.length = cs.length := by simp [sx]
      rw [this, List.take_length]; exact hc
  rintro Γ' S' ⟨rfl, hi, o, rfl⟩
  walk_at "am"
  have e : nmb cs = true := nmb_iff.mpr ⟨by omega, by omega, hi⟩
  rw [e] at h
  exact fin_keep h
theorem whole_ok (k : Nat) (n : Int) {S : Sto} {P : PV} {E : PX} (h : P (.bl true) S) : call Hd.T (k + 1) "_law_whole" [.int n] S P E := by
  refine call_def (d := Hd.f_l_whole) rfl rfl ?_
  unfold Hd.f_l_whole
  walk_at "am"
  exact fin_keep h
end TR
end

section
set_option linter.all false
set_option maxRecDepth 100000
set_option maxHeartbeats 4000000
/-! Values read back (k47 to k50). -/
open PySem
namespace NB
open PySem AM NM TR
local macro_rules | `(tactic| walk_at "am") => `(tactic| try simp only [W_fmt, W_js, WJ_nil, WJ_cons, Ss_par, st_set0, st_setS, iteTrue, iteFalse, iteDec, iteNDec, exSome, exBl, W_var, W_int, W_bl, W_non, W_str, W_tup, W_lst, W_bin, W_neg, W_cmp, W_isN, W_notN, W_lrev, W_maxd, W_sortk, wIsb, wNisb, W_chain, W_chain3, W_tst, W_ite, W_call, W_len, W_abs, W_isi, W_sub, WT_val, WT_not, WT_and, WT_or, WA_one, WA_cons, WO_one, WO_cons, WB_val, WB_not, WB_and, WB_or, WBA_one, WBA_cons, WBO_one, WBO_cons, WL_nil, WL_cons, WS_set, WS_ret, WS_retN, WS_pass, WS_brk, WS_cont, WS_drop, WS_ite, WS_raise, WSs_nil, Ss_set, Ss_ret, Ss_retN, Ss_pass, Ss_brk, Ss_cont, Ss_drop, Ss_raise, Ss_ite_ret, Ss_ite_retN, Ss_ite_raise, Ss_ite_cont, Ss_ite_brk, Ss_ite_last, gt_0, gt_S, wAdd_int, wSub_int, wMul_int, wMul_rep, wMul_str, wDiv_int, wMod_int, wPow_int, wAdd_str, wNeg_int, wAbs_int, wLt_int, wLe_int, wGt_int, wGe_int, wEq_int, wNe_int, wEq_bl, wNe_bl, wEq_str, wNe_str, wLen_tup, wLen_lst, tru_bl, tru_int, ty_int_int, ty_int_bool, ty_int_str, ty_int_tuple, ty_int_list, ty_int_dict, ty_bl_int, ty_bl_bool, ty_bl_str, ty_bl_tuple, ty_bl_list, ty_bl_dict, ty_str_int, ty_str_bool, ty_str_str, ty_str_tuple, ty_str_list, ty_str_dict, ty_tup_int, ty_tup_bool, ty_tup_str, ty_tup_tuple, ty_tup_list, ty_tup_dict, ty_lst_int, ty_lst_bool, ty_lst_str, ty_lst_tuple, ty_lst_list, ty_lst_dict, ty_dct_int, ty_dct_bool, ty_dct_str, ty_dct_tuple, ty_dct_list, ty_dct_dict, ty_non, sub_tup0, sub_tup1, sub_tup2, sub_tup3, sub_tup4, sub_tup5, sub_lst0, sub_lst1, sub_lst2, sub_lst3, sub_lst4, sub_lst5, startA, List.map_cons, List.map_nil, List.length_cons, List.length_nil, List.replicate, List.cons_append, List.nil_append, true_and, and_true, ne_eq, isNon, Bool.not_true, Bool.not_false, Bool.true_or, Bool.or_true, Bool.false_or, reduceIte, Nat.reduceAdd, Nat.zero_add, Int.cast_ofNat_Int, Int.reduceEq, Int.reduceLT, Int.reduceLE, Nat.reduceLeDiff, decide_true, decide_false, not_true_eq_false, not_false_eq_true, Nat.reduceSub, Int.reduceToNat, W_slice, W_blt, W_mth, W_comp, WOe_none, WOe_some, WI_seq, WI_keys, WI_items, WI_range1, WI_range2, WI_enum, WI_zip, WI_rev, WI_revr, WI_rangeD, WT0_none, WT0_some, Ss_asg, Ss_setSub, Ss_aug, WS_asg, WS_aug, WS_for, WS_setC, bT_name, bT_tup, bT_lst, bTs_nil, bTs_name, seq_lst, seq_tup, seq_scr, seq_str, seq_loc, en_tup, en_lst, en_scr, en_loc, lst_lst, lst_scr, lst_loc, exInt, exLoc, exLst, exLst1, exLV_lst, exLV_loc, mOk_app, mOk_pop, mOk_ext, mOk_ins, mOk_ind, mOk_join, mOk_indl, m_append, m_pop, m_extend, m_insert, m_join, b_listL, b_listT, b_listS, b_listK, b_tupL, b_tupT, b_tupK, b_max2, b_min2, b_ord, b_str, sl_lst, sl_loc, sl_scr, sl_tupE, sl_strE, cat_lst, cat_loc, cat_tup, wLen_scr, wLen_loc, wLen_str, wSub_scr, wSub_loc, wSub_str, aug_add, aug_sub, tru_lst, tru_tup, tru_non, ty_scr_list, sg_p0, sg_pl, ss_p0, ss_pl, ob_set0, ob_set1, ob_set2, ob_set3, ob_g0, ob_g1, ob_g2, ob_g3, List.append_assoc, List.length_append, List.nil_append, Nat.add_zero, Nat.add_assoc, Int.reduceNeg, wipeA, orc_run, orc_glob, orc_init, orc_isa, orc_gdct, W_isc, W_isE, W_isEt, orc_xk, m_upper, m_partition, m_split, m_endswith, m_find, mOk_upper, mOk_partition, mOk_split, mOk_endswith, mOk_find, b_intB, W_glob, W_gget, W_fld, W_mcall, W_make, W_make0, W_dsp, Ss_setFld, subO_l, subO_d, subO_k, lenO_l, lenO_d, listO_l, listO_d, putO_l, keyV_int, keyV_str, wIn_str, wNotin_str, mapSome, at_0, at_1, at_2, at_3, at_4, at_5, ix_1_0, ix_2_0, ix_2_1, ix_3_0, ix_3_1, ix_3_2, ix_4_0, ix_4_1, ix_4_2, ix_4_3, va_s0, va_s1, va_s2, va_s3])
local macro_rules | `(tactic| walk_at "if") => `(tactic| (try simp only []); rw [Ss_ite]; simp only [W_fmt, W_js, WJ_nil, WJ_cons, Ss_par, st_set0, st_setS, iteTrue, iteFalse, iteDec, iteNDec, exSome, exBl, W_var, W_int, W_bl, W_non, W_str, W_tup, W_lst, W_bin, W_neg, W_cmp, W_isN, W_notN, W_lrev, W_maxd, W_sortk, wIsb, wNisb, W_chain, W_chain3, W_tst, W_ite, W_call, W_len, W_abs, W_isi, W_sub, WT_val, WT_not, WT_and, WT_or, WA_one, WA_cons, WO_one, WO_cons, WB_val, WB_not, WB_and, WB_or, WBA_one, WBA_cons, WBO_one, WBO_cons, WL_nil, WL_cons, WS_set, WS_ret, WS_retN, WS_pass, WS_brk, WS_cont, WS_drop, WS_ite, WS_raise, WSs_nil, Ss_set, Ss_ret, Ss_retN, Ss_pass, Ss_brk, Ss_cont, Ss_drop, Ss_raise, Ss_ite_ret, Ss_ite_retN, Ss_ite_raise, Ss_ite_cont, Ss_ite_brk, Ss_ite_last, gt_0, gt_S, wAdd_int, wSub_int, wMul_int, wMul_rep, wMul_str, wDiv_int, wMod_int, wPow_int, wAdd_str, wNeg_int, wAbs_int, wLt_int, wLe_int, wGt_int, wGe_int, wEq_int, wNe_int, wEq_bl, wNe_bl, wEq_str, wNe_str, wLen_tup, wLen_lst, tru_bl, tru_int, ty_int_int, ty_int_bool, ty_int_str, ty_int_tuple, ty_int_list, ty_int_dict, ty_bl_int, ty_bl_bool, ty_bl_str, ty_bl_tuple, ty_bl_list, ty_bl_dict, ty_str_int, ty_str_bool, ty_str_str, ty_str_tuple, ty_str_list, ty_str_dict, ty_tup_int, ty_tup_bool, ty_tup_str, ty_tup_tuple, ty_tup_list, ty_tup_dict, ty_lst_int, ty_lst_bool, ty_lst_str, ty_lst_tuple, ty_lst_list, ty_lst_dict, ty_dct_int, ty_dct_bool, ty_dct_str, ty_dct_tuple, ty_dct_list, ty_dct_dict, ty_non, sub_tup0, sub_tup1, sub_tup2, sub_tup3, sub_tup4, sub_tup5, sub_lst0, sub_lst1, sub_lst2, sub_lst3, sub_lst4, sub_lst5, startA, List.map_cons, List.map_nil, List.length_cons, List.length_nil, List.replicate, List.cons_append, List.nil_append, true_and, and_true, ne_eq, isNon, Bool.not_true, Bool.not_false, Bool.true_or, Bool.or_true, Bool.false_or, reduceIte, Nat.reduceAdd, Nat.zero_add, Int.cast_ofNat_Int, Int.reduceEq, Int.reduceLT, Int.reduceLE, Nat.reduceLeDiff, decide_true, decide_false, not_true_eq_false, not_false_eq_true, Nat.reduceSub, Int.reduceToNat, W_slice, W_blt, W_mth, W_comp, WOe_none, WOe_some, WI_seq, WI_keys, WI_items, WI_range1, WI_range2, WI_enum, WI_zip, WI_rev, WI_revr, WI_rangeD, WT0_none, WT0_some, Ss_asg, Ss_setSub, Ss_aug, WS_asg, WS_aug, WS_for, WS_setC, bT_name, bT_tup, bT_lst, bTs_nil, bTs_name, seq_lst, seq_tup, seq_scr, seq_str, seq_loc, en_tup, en_lst, en_scr, en_loc, lst_lst, lst_scr, lst_loc, exInt, exLoc, exLst, exLst1, exLV_lst, exLV_loc, mOk_app, mOk_pop, mOk_ext, mOk_ins, mOk_ind, mOk_join, mOk_indl, m_append, m_pop, m_extend, m_insert, m_join, b_listL, b_listT, b_listS, b_listK, b_tupL, b_tupT, b_tupK, b_max2, b_min2, b_ord, b_str, sl_lst, sl_loc, sl_scr, sl_tupE, sl_strE, cat_lst, cat_loc, cat_tup, wLen_scr, wLen_loc, wLen_str, wSub_scr, wSub_loc, wSub_str, aug_add, aug_sub, tru_lst, tru_tup, tru_non, ty_scr_list, sg_p0, sg_pl, ss_p0, ss_pl, ob_set0, ob_set1, ob_set2, ob_set3, ob_g0, ob_g1, ob_g2, ob_g3, List.append_assoc, List.length_append, List.nil_append, Nat.add_zero, Nat.add_assoc, Int.reduceNeg, wipeA, orc_run, orc_glob, orc_init, orc_isa, orc_gdct, W_isc, W_isE, W_isEt, orc_xk, m_upper, m_partition, m_split, m_endswith, m_find, mOk_upper, mOk_partition, mOk_split, mOk_endswith, mOk_find, b_intB, W_glob, W_gget, W_fld, W_mcall, W_make, W_make0, W_dsp, Ss_setFld, subO_l, subO_d, subO_k, lenO_l, lenO_d, listO_l, listO_d, putO_l, keyV_int, keyV_str, wIn_str, wNotin_str, mapSome, at_0, at_1, at_2, at_3, at_4, at_5, ix_1_0, ix_2_0, ix_2_1, ix_3_0, ix_3_1, ix_3_2, ix_4_0, ix_4_1, ix_4_2, ix_4_3, va_s0, va_s1, va_s2, va_s3])
/-- a text that begins with a figure is no name, and not hand or start -/
theorem shT_cps (a b : Nat) : ∃ c r, (shT a b).cps.toList = c :: r ∧ c ≤ 57 := by
  have h : ∃ c r, (nT a).cps.toList = c :: r ∧ c ≤ 57 := by
    cases e : (nT a).cps.toList with
    | nil => rw [nT_tl] at e; exact absurd e (TL.numL_ne a)
    | cons c r => exact ⟨c, r, rfl, (nT_sign a c (by rw [e]; exact List.mem_cons_self)).2⟩
  obtain ⟨c, r, e, l⟩ := h
  unfold shT
  split
  · exact ⟨c, r, e, l⟩
  · refine ⟨c, r ++ slash.cps.toList ++ (nT b).cps.toList, ?_, l⟩
    show ((nT a).cps ++ slash.cps ++ (nT b).cps).toList = _
    rw [Array.toList_append, Array.toList_append, e]; rfl
theorem sx_self (x : Str) : sx x.cps.toList = x := by unfold sx; cases x; simp
theorem notname (k : Nat) {x : Str} {c : Nat} {r : List Nat} (e : x.cps.toList = c :: r) (l : c ≤ 57) (hl : x.length ≤ 1000) {S : Sto} {P : PV} {E : PX} (h : P (.bl false) S) : call Hd.T (k + 1) "is_name" [.str x] S P E := by
  have z : nmb x.cps.toList = false := Bool.eq_false_iff.mpr fun y => by
    have := (nmb_iff.mp y).let_ c (by rw [e]; exact List.mem_cons_self)
    omega
  have hc : x.cps.toList.length ≤ 1000 := hl
  have := isname_gen (P := P) (E := E) k x.cps.toList hc (S := S) (by rw [z]; exact h)
  rwa [sx_self] at this
theorem read_value_word (k : Nat) {cs : List Nat} (hn : Nm cs) (n1 : sx cs ≠ Str.ofString "hand") (n2 : sx cs ≠ Str.ofString "start") {S : Sto} {P : PV} {E : PX} (hp : P (.tup [.str (Str.ofString "word"), .str (sx cs)]) S) : call Hd.T (k + 3) "read_value" [.str (sx cs)] S P E := by
  refine call_def (d := Hd.f_read_value) rfl rfl ?_
  unfold Hd.f_read_value
  walk_at "am"
  rw [if_neg n1, if_neg n2]
  refine isname_ok _ cs hn ?_
  walk_at "am"
  exact fin_keep hp
theorem blk_cps : TL.tl (Str.ofString " ") = [32] := by decide +kernel
theorem app_cps (a b : Str) : (a ++ b).cps.toList = a.cps.toList ++ b.cps.toList := by
  show (a.cps ++ b.cps).toList = _
  exact Array.toList_append
theorem shT_noblk (a b : Nat) : 32 ∉ TL.tl (shT a b) := by
  have h1 := nT_free a 32 (by omega)
  have h2 := nT_free b 32 (by omega)
  unfold shT
  split
  · exact h1
  · intro hm
    have hm : 32 ∈ (nT a ++ slash ++ nT b).cps.toList := hm
    rw [app_cps, app_cps] at hm
    rcases List.mem_append.mp hm with hm | hm
    · rcases List.mem_append.mp hm with hm | hm
      · exact h1 hm
      · have z : (32 : Nat) ∉ slash.cps.toList := by decide +kernel
        exact z hm
    · exact h2 hm
theorem split_one (a b : Nat) : Txt.split (shT a b) (Str.ofString " ") = [shT a b] := by
  have h := TL.split_join (y := Str.ofString " ") blk_cps (by decide +kernel) (parts := [shT a b]) (by simp) (fun p hp => by rw [List.mem_singleton.mp hp]; exact shT_noblk a b)
  have e : Txt.join (Str.ofString " ") [shT a b] = shT a b := by rw [TL.join_eq]; rfl
  rwa [e] at h
theorem shT_ne {a b : Nat} {x : Str} {c : Nat} {r : List Nat} (e : x.cps.toList = c :: r) (l : 57 < c) : shT a b ≠ x := by
  intro z
  obtain ⟨c', r', e', l'⟩ := shT_cps a b
  rw [z, e] at e'
  have := (List.cons.inj e').1
  omega
theorem shT_hand (a b : Nat) : shT a b ≠ Str.ofString "hand" := shT_ne (c := 104) (r := [97, 110, 100]) (by decide +kernel) (by decide)
theorem shT_start (a b : Nat) : shT a b ≠ Str.ofString "start" := shT_ne (c := 115) (r := [116, 97, 114, 116]) (by decide +kernel) (by decide)
theorem read_value_num (k : Nat) {a b : Nat} (ha : a < 10 ^ 30) (hb : b < 10 ^ 30) (h1 : 1 ≤ b) {S : Sto} {P : PV} {E : PX} (hp : P (.tup [.str (Str.ofString "number"), .int (a : Nat), .int (b : Nat)]) S) : call Hd.T (k + 3) "read_value" [.str (shT a b)] S P E := by
  refine call_def (d := Hd.f_read_value) rfl rfl ?_
  have l := shT_len ha hb
  have hz : (1000 : Nat) ≤ sizeLine := by decide
  unfold Hd.f_read_value
  walk_at "am"
  rw [if_neg (shT_hand a b), if_neg (shT_start a b)]
  obtain ⟨c, r, e, lc⟩ := shT_cps a b
  refine notname (k + 1) e lc (by omega) ?_
  refine ⟨false, rfl, ?_⟩
  rw [if_neg (by decide), split_one]
  refine ⟨by decide +kernel, by omega, .str (shT a b), by rw [List.map_cons, List.map_nil]; exact L2.atI_nat (j := 0) rfl, ?_⟩
  refine read_share_ok k ha hb h1 ?_
  refine ⟨_, rfl, ?_⟩
  walk_at "am"
  exact fin_val rfl hp
theorem strx {a b : Str} (h : a.cps.toList = b.cps.toList) : a = b := by
  cases a; cases b; simp only [Str.mk.injEq]; exact Array.toList_inj.mp h
theorem join2 (a b : Str) : Txt.join (Str.ofString " ") [a, b] = a ++ blk ++ b := by
  rw [TL.join_eq]
  refine strx ?_
  show TL.tl _ = _
  rw [TL.tl_join, app_cps, app_cps]
  simp [TL.joinL, TL.tl, blk]
theorem join3 (a b c : Str) : Txt.join (Str.ofString " ") [a, b, c] = a ++ blk ++ b ++ blk ++ c := by
  rw [TL.join_eq]
  refine strx ?_
  show TL.tl _ = _
  rw [TL.tl_join, app_cps, app_cps, app_cps, app_cps]
  simp [TL.joinL, TL.tl, blk]
theorem split_two (a b : Nat) {w : Str} (h : 32 ∉ TL.tl w) : Txt.split (shT a b ++ blk ++ w) (Str.ofString " ") = [shT a b, w] := by
  have h := TL.split_join (y := Str.ofString " ") blk_cps (by decide +kernel) (parts := [shT a b, w]) (by simp) (fun p hp => by
    rcases List.mem_cons.mp hp with rfl | hp
    · exact shT_noblk a b
    · rw [List.mem_singleton.mp hp]; exact h)
  rwa [join2] at h
theorem split_three (a b : Nat) {w : Str} (h : 32 ∉ TL.tl w) : Txt.split (shT a b ++ ofS ++ w) (Str.ofString " ") = [shT a b, Str.ofString "of", w] := by
  have h := TL.split_join (y := Str.ofString " ") blk_cps (by decide +kernel) (parts := [shT a b, Str.ofString "of", w]) (by simp) (fun p hp => by
    rcases List.mem_cons.mp hp with rfl | hp
    · exact shT_noblk a b
    · rcases List.mem_cons.mp hp with rfl | hp
      · decide +kernel
      · rw [List.mem_singleton.mp hp]; exact h)
  rw [join3] at h
  have e : shT a b ++ ofS ++ w = shT a b ++ blk ++ Str.ofString "of" ++ blk ++ w := by
    refine strx ?_
    have z : ofS.cps.toList = blk.cps.toList ++ (Str.ofString "of").cps.toList ++ blk.cps.toList := by decide +kernel
    simp only [app_cps, z, List.append_assoc]
  rwa [e]
theorem app_cps1 (a b : Nat) (y : Str) : ∃ c r, (shT a b ++ y).cps.toList = c :: r ∧ c ≤ 57 := by
  obtain ⟨c, r, e, l⟩ := shT_cps a b
  exact ⟨c, r ++ y.cps.toList, by rw [app_cps, e]; rfl, l⟩
theorem ne_of_first {x y : Str} {c c' : Nat} {r r' : List Nat} (e : x.cps.toList = c :: r) (l : c ≤ 57) (e' : y.cps.toList = c' :: r') (l' : 57 < c') : x ≠ y := by
  intro z
  rw [z, e'] at e
  have := (List.cons.inj e).1
  omega
theorem app3 (a b c : Str) : a ++ b ++ c = a ++ (b ++ c) := strx (by simp only [app_cps, List.append_assoc])
theorem any_eqW (p : Str) : ∀ xs : List Str, ((xs.map Va.str).any fun z => eqW z (.str p)) = decide (p ∈ xs)
  | [] => by simp
  | x :: xs => by
    rw [List.map_cons, List.any_cons, any_eqW p xs]
    show ((x == p) || _) = _
    rw [Bool.eq_iff_iff, Bool.or_eq_true, beq_iff_eq, decide_eq_true_iff, decide_eq_true_iff, List.mem_cons]
    exact or_congr eq_comm Iff.rfl
theorem isin_tup {S : Sto} {P : PV} {p : Str} {xs : List Str} (h : P (.bl (decide (p ∈ xs))) S) : wCmp .isin (.str p) (.tup (xs.map Va.str)) S P := by
  refine ⟨rfl, List.all_eq_true.mpr fun x hx => ?_, ?_⟩
  · obtain ⟨y, _, rfl⟩ := List.mem_map.mp hx; rfl
  · rw [any_eqW]; exact h
theorem read_value_two (k : Nat) {a b : Nat} (ha : a < 10 ^ 30) (hb : b < 10 ^ 30) (h1 : 1 ≤ b) {w : Str} (hw : w = Str.ofString "part" ∨ w = Str.ofString "times") {S : Sto} {P : PV} {E : PX} (hp : P (.tup [.str w, .int (a : Nat), .int (b : Nat)]) S) : call Hd.T (k + 3) "read_value" [.str (shT a b ++ blk ++ w)] S P E := by
  refine call_def (d := Hd.f_read_value) rfl rfl ?_
  have l := shT_len ha hb
  have hz : (1000 : Nat) ≤ sizeLine := by decide
  have lw : w.length ≤ 5 := by rcases hw with rfl | rfl <;> decide +kernel
  have hs : 32 ∉ TL.tl w := by rcases hw with rfl | rfl <;> decide +kernel
  have lb : blk.length = 1 := by decide +kernel
  have lx : (shT a b ++ blk ++ w).length ≤ 67 := by rw [app_len, app_len]; omega
  have hx : ∃ c r, (shT a b ++ blk ++ w).cps.toList = c :: r ∧ c ≤ 57 := by rw [app3]; exact app_cps1 a b _
  have hsp := split_two a b hs
  revert lx hx hsp
  generalize shT a b ++ blk ++ w = x
  intro lx hx hsp
  obtain ⟨c, r, e, lc⟩ := hx
  unfold Hd.f_read_value
  walk_at "am"
  rw [if_neg (ne_of_first (y := Str.ofString "hand") e lc (c' := 104) (r' := [97, 110, 100]) (by decide +kernel) (by decide)), if_neg (ne_of_first (y := Str.ofString "start") e lc (c' := 115) (r' := [116, 97, 114, 116]) (by decide +kernel) (by decide))]
  refine notname (k + 1) e lc (by omega) ?_
  refine ⟨false, rfl, ?_⟩
  rw [if_neg (by decide), hsp]
  refine ⟨by decide +kernel, by omega, .str (shT a b), by rw [List.map_cons]; exact L2.atI_nat (j := 0) rfl, ?_⟩
  refine read_share_ok k ha hb h1 ?_
  refine ⟨_, rfl, ?_⟩
  walk_at "am"
  refine isin_tup (xs := [Str.ofString "part", Str.ofString "times"]) ?_
  refine ⟨true, by rw [decide_eq_true (show w ∈ [Str.ofString "part", Str.ofString "times"] by rcases hw with rfl | rfl <;> simp)]; rfl, ?_⟩
  rw [if_pos rfl]
  refine ⟨_, by rw [sg_p0]; rfl, ?_⟩
  rw [subO_l]
  exact ⟨.str w, L2.atI_nat (j := 1) rfl, fin_val rfl hp⟩
theorem read_value_three (k : Nat) {a b : Nat} (ha : a < 10 ^ 30) (hb : b < 10 ^ 30) (h1 : 1 ≤ b) {w : Str} {xs : List Str} (hg : Hd.T.glob (Str.ofString "NUMBERS") = some (.tup (xs.map Va.str))) (hw : w ∈ xs) (lw : w.length ≤ 100) (hs : 32 ∉ TL.tl w) {S : Sto} {P : PV} {E : PX} (hp : P (.tup [.str (Str.ofString "of"), .str w, .int (a : Nat), .int (b : Nat)]) S) : call Hd.T (k + 3) "read_value" [.str (shT a b ++ ofS ++ w)] S P E := by
  refine call_def (d := Hd.f_read_value) rfl rfl ?_
  have l := shT_len ha hb
  have hz : (1000 : Nat) ≤ sizeLine := by decide
  have lb : ofS.length = 4 := by decide +kernel
  have lx : (shT a b ++ ofS ++ w).length ≤ 165 := by rw [app_len, app_len]; omega
  have hx : ∃ c r, (shT a b ++ ofS ++ w).cps.toList = c :: r ∧ c ≤ 57 := by rw [app3]; exact app_cps1 a b _
  have hsp := split_three a b hs
  revert lx hx hsp
  generalize shT a b ++ ofS ++ w = x
  intro lx hx hsp
  obtain ⟨c, r, e, lc⟩ := hx
  unfold Hd.f_read_value
  walk_at "am"
  rw [if_neg (ne_of_first (y := Str.ofString "hand") e lc (c' := 104) (r' := [97, 110, 100]) (by decide +kernel) (by decide)), if_neg (ne_of_first (y := Str.ofString "start") e lc (c' := 115) (r' := [116, 97, 114, 116]) (by decide +kernel) (by decide))]
  refine notname (k + 1) e lc (by omega) ?_
  refine ⟨false, rfl, ?_⟩
  rw [if_neg (by decide), hsp]
  refine ⟨by decide +kernel, by omega, .str (shT a b), by rw [List.map_cons]; exact L2.atI_nat (j := 0) rfl, ?_⟩
  refine read_share_ok k ha hb h1 ?_
  refine ⟨_, rfl, ?_⟩
  walk_at "am"
  refine ⟨_, hg, isin_tup (xs := xs) ?_⟩
  refine ⟨true, by rw [decide_eq_true hw]; rfl, ?_⟩
  rw [if_pos rfl]
  refine ⟨_, by rw [sg_p0]; rfl, ?_⟩
  rw [subO_l]
  exact ⟨.str w, L2.atI_nat (j := 2) rfl, fin_val rfl hp⟩
theorem read_value_sign (k : Nat) {w : Str} (hw : w = Str.ofString "hand" ∨ w = Str.ofString "start") {S : Sto} {P : PV} {E : PX} (hp : P (.tup [.str w]) S) : call Hd.T (k + 3) "read_value" [.str w] S P E := by
  refine call_def (d := Hd.f_read_value) rfl rfl ?_
  unfold Hd.f_read_value
  walk_at "am"
  rcases hw with rfl | rfl
  · rw [if_pos rfl]
    exact fin_keep hp
  · rw [if_neg (by decide +kernel), if_pos rfl]
    exact fin_keep hp
end NB
end

section
set_option linter.all false
set_option maxRecDepth 100000
set_option maxHeartbeats 4000000
/-! The law's own texts (k47). -/
open PySem
namespace NB
open PySem AM NM TR
local macro_rules | `(tactic| walk_at "am") => `(tactic| try simp only [W_fmt, W_js, WJ_nil, WJ_cons, Ss_par, wFmt_str, wFmt_int, st_set0, st_setS, iteTrue, iteFalse, iteDec, iteNDec, exSome, exBl, W_var, W_int, W_bl, W_non, W_str, W_tup, W_lst, W_bin, W_neg, W_cmp, W_isN, W_notN, W_lrev, W_maxd, W_sortk, wIsb, wNisb, W_chain, W_chain3, W_tst, W_ite, W_call, W_len, W_abs, W_isi, W_sub, WT_val, WT_not, WT_and, WT_or, WA_one, WA_cons, WO_one, WO_cons, WB_val, WB_not, WB_and, WB_or, WBA_one, WBA_cons, WBO_one, WBO_cons, WL_nil, WL_cons, WS_set, WS_ret, WS_retN, WS_pass, WS_brk, WS_cont, WS_drop, WS_ite, WS_raise, WSs_nil, Ss_set, Ss_ret, Ss_retN, Ss_pass, Ss_brk, Ss_cont, Ss_drop, Ss_raise, Ss_ite_ret, Ss_ite_retN, Ss_ite_raise, Ss_ite_cont, Ss_ite_brk, Ss_ite_last, gt_0, gt_S, wAdd_int, wSub_int, wMul_int, wMul_rep, wMul_str, wDiv_int, wMod_int, wPow_int, wAdd_str, wNeg_int, wAbs_int, wLt_int, wLe_int, wGt_int, wGe_int, wEq_int, wNe_int, wEq_bl, wNe_bl, wEq_str, wNe_str, wLen_tup, wLen_lst, tru_bl, tru_int, ty_int_int, ty_int_bool, ty_int_str, ty_int_tuple, ty_int_list, ty_int_dict, ty_bl_int, ty_bl_bool, ty_bl_str, ty_bl_tuple, ty_bl_list, ty_bl_dict, ty_str_int, ty_str_bool, ty_str_str, ty_str_tuple, ty_str_list, ty_str_dict, ty_tup_int, ty_tup_bool, ty_tup_str, ty_tup_tuple, ty_tup_list, ty_tup_dict, ty_lst_int, ty_lst_bool, ty_lst_str, ty_lst_tuple, ty_lst_list, ty_lst_dict, ty_dct_int, ty_dct_bool, ty_dct_str, ty_dct_tuple, ty_dct_list, ty_dct_dict, ty_non, sub_tup0, sub_tup1, sub_tup2, sub_tup3, sub_tup4, sub_tup5, sub_lst0, sub_lst1, sub_lst2, sub_lst3, sub_lst4, sub_lst5, startA, List.map_cons, List.map_nil, List.length_cons, List.length_nil, List.replicate, List.cons_append, List.nil_append, true_and, and_true, ne_eq, isNon, Bool.not_true, Bool.not_false, Bool.true_or, Bool.or_true, Bool.false_or, reduceIte, Nat.reduceAdd, Nat.zero_add, Int.cast_ofNat_Int, Int.reduceEq, Int.reduceLT, Int.reduceLE, Nat.reduceLeDiff, decide_true, decide_false, not_true_eq_false, not_false_eq_true, Nat.reduceSub, Int.reduceToNat, W_slice, W_blt, W_mth, W_comp, WOe_none, WOe_some, WI_seq, WI_keys, WI_items, WI_range1, WI_range2, WI_enum, WI_zip, WI_rev, WI_revr, WI_rangeD, WT0_none, WT0_some, Ss_asg, Ss_setSub, Ss_aug, WS_asg, WS_aug, WS_for, WS_setC, bT_name, bT_tup, bT_lst, bTs_nil, bTs_name, seq_lst, seq_tup, seq_scr, seq_str, seq_loc, en_tup, en_lst, en_scr, en_loc, lst_lst, lst_scr, lst_loc, exInt, exLoc, exLst, exLst1, exLV_lst, exLV_loc, mOk_app, mOk_pop, mOk_ext, mOk_ins, mOk_ind, mOk_join, mOk_indl, m_append, m_pop, m_extend, m_insert, m_join, b_listL, b_listT, b_listS, b_listK, b_tupL, b_tupT, b_tupK, b_max2, b_min2, b_ord, b_str, sl_lst, sl_loc, sl_scr, sl_tupE, sl_strE, cat_lst, cat_loc, cat_tup, wLen_scr, wLen_loc, wLen_str, wSub_scr, wSub_loc, wSub_str, aug_add, aug_sub, tru_lst, tru_tup, tru_non, ty_scr_list, sg_p0, sg_pl, ss_p0, ss_pl, ob_set0, ob_set1, ob_set2, ob_set3, ob_g0, ob_g1, ob_g2, ob_g3, List.append_assoc, List.length_append, List.nil_append, Nat.add_zero, Nat.add_assoc, Int.reduceNeg, wipeA, orc_run, orc_glob, orc_init, orc_isa, orc_gdct, W_isc, W_isE, W_isEt, orc_xk, m_upper, m_partition, m_split, m_endswith, m_find, mOk_upper, mOk_partition, mOk_split, mOk_endswith, mOk_find, b_intB, W_glob, W_gget, W_fld, W_mcall, W_make, W_make0, W_dsp, Ss_setFld, subO_l, subO_d, subO_k, lenO_l, lenO_d, listO_l, listO_d, putO_l, keyV_int, keyV_str, wIn_str, wNotin_str, mapSome, at_0, at_1, at_2, at_3, at_4, at_5, ix_1_0, ix_2_0, ix_2_1, ix_3_0, ix_3_1, ix_3_2, ix_4_0, ix_4_1, ix_4_2, ix_4_3, va_s0, va_s1, va_s2, va_s3])
local macro_rules | `(tactic| walk_at "if") => `(tactic| (try simp only []); rw [Ss_ite]; simp only [W_fmt, W_js, WJ_nil, WJ_cons, Ss_par, wFmt_str, wFmt_int, st_set0, st_setS, iteTrue, iteFalse, iteDec, iteNDec, exSome, exBl, W_var, W_int, W_bl, W_non, W_str, W_tup, W_lst, W_bin, W_neg, W_cmp, W_isN, W_notN, W_lrev, W_maxd, W_sortk, wIsb, wNisb, W_chain, W_chain3, W_tst, W_ite, W_call, W_len, W_abs, W_isi, W_sub, WT_val, WT_not, WT_and, WT_or, WA_one, WA_cons, WO_one, WO_cons, WB_val, WB_not, WB_and, WB_or, WBA_one, WBA_cons, WBO_one, WBO_cons, WL_nil, WL_cons, WS_set, WS_ret, WS_retN, WS_pass, WS_brk, WS_cont, WS_drop, WS_ite, WS_raise, WSs_nil, Ss_set, Ss_ret, Ss_retN, Ss_pass, Ss_brk, Ss_cont, Ss_drop, Ss_raise, Ss_ite_ret, Ss_ite_retN, Ss_ite_raise, Ss_ite_cont, Ss_ite_brk, Ss_ite_last, gt_0, gt_S, wAdd_int, wSub_int, wMul_int, wMul_rep, wMul_str, wDiv_int, wMod_int, wPow_int, wAdd_str, wNeg_int, wAbs_int, wLt_int, wLe_int, wGt_int, wGe_int, wEq_int, wNe_int, wEq_bl, wNe_bl, wEq_str, wNe_str, wLen_tup, wLen_lst, tru_bl, tru_int, ty_int_int, ty_int_bool, ty_int_str, ty_int_tuple, ty_int_list, ty_int_dict, ty_bl_int, ty_bl_bool, ty_bl_str, ty_bl_tuple, ty_bl_list, ty_bl_dict, ty_str_int, ty_str_bool, ty_str_str, ty_str_tuple, ty_str_list, ty_str_dict, ty_tup_int, ty_tup_bool, ty_tup_str, ty_tup_tuple, ty_tup_list, ty_tup_dict, ty_lst_int, ty_lst_bool, ty_lst_str, ty_lst_tuple, ty_lst_list, ty_lst_dict, ty_dct_int, ty_dct_bool, ty_dct_str, ty_dct_tuple, ty_dct_list, ty_dct_dict, ty_non, sub_tup0, sub_tup1, sub_tup2, sub_tup3, sub_tup4, sub_tup5, sub_lst0, sub_lst1, sub_lst2, sub_lst3, sub_lst4, sub_lst5, startA, List.map_cons, List.map_nil, List.length_cons, List.length_nil, List.replicate, List.cons_append, List.nil_append, true_and, and_true, ne_eq, isNon, Bool.not_true, Bool.not_false, Bool.true_or, Bool.or_true, Bool.false_or, reduceIte, Nat.reduceAdd, Nat.zero_add, Int.cast_ofNat_Int, Int.reduceEq, Int.reduceLT, Int.reduceLE, Nat.reduceLeDiff, decide_true, decide_false, not_true_eq_false, not_false_eq_true, Nat.reduceSub, Int.reduceToNat, W_slice, W_blt, W_mth, W_comp, WOe_none, WOe_some, WI_seq, WI_keys, WI_items, WI_range1, WI_range2, WI_enum, WI_zip, WI_rev, WI_revr, WI_rangeD, WT0_none, WT0_some, Ss_asg, Ss_setSub, Ss_aug, WS_asg, WS_aug, WS_for, WS_setC, bT_name, bT_tup, bT_lst, bTs_nil, bTs_name, seq_lst, seq_tup, seq_scr, seq_str, seq_loc, en_tup, en_lst, en_scr, en_loc, lst_lst, lst_scr, lst_loc, exInt, exLoc, exLst, exLst1, exLV_lst, exLV_loc, mOk_app, mOk_pop, mOk_ext, mOk_ins, mOk_ind, mOk_join, mOk_indl, m_append, m_pop, m_extend, m_insert, m_join, b_listL, b_listT, b_listS, b_listK, b_tupL, b_tupT, b_tupK, b_max2, b_min2, b_ord, b_str, sl_lst, sl_loc, sl_scr, sl_tupE, sl_strE, cat_lst, cat_loc, cat_tup, wLen_scr, wLen_loc, wLen_str, wSub_scr, wSub_loc, wSub_str, aug_add, aug_sub, tru_lst, tru_tup, tru_non, ty_scr_list, sg_p0, sg_pl, ss_p0, ss_pl, ob_set0, ob_set1, ob_set2, ob_set3, ob_g0, ob_g1, ob_g2, ob_g3, List.append_assoc, List.length_append, List.nil_append, Nat.add_zero, Nat.add_assoc, Int.reduceNeg, wipeA, orc_run, orc_glob, orc_init, orc_isa, orc_gdct, W_isc, W_isE, W_isEt, orc_xk, m_upper, m_partition, m_split, m_endswith, m_find, mOk_upper, mOk_partition, mOk_split, mOk_endswith, mOk_find, b_intB, W_glob, W_gget, W_fld, W_mcall, W_make, W_make0, W_dsp, Ss_setFld, subO_l, subO_d, subO_k, lenO_l, lenO_d, listO_l, listO_d, putO_l, keyV_int, keyV_str, wIn_str, wNotin_str, mapSome, at_0, at_1, at_2, at_3, at_4, at_5, ix_1_0, ix_2_0, ix_2_1, ix_3_0, ix_3_1, ix_3_2, ix_4_0, ix_4_1, ix_4_2, ix_4_3, va_s0, va_s1, va_s2, va_s3])
theorem lshare_ok (k : Nat) {a b : Nat} (ha : a < 10 ^ 300) (hb : b < 10 ^ 30) {S : Sto} {P : PV} {E : PX} (hp : P (.str (shT a b)) S) : call Hd.T (k + 1) "_law_share_text" [.int (a : Nat), .int (b : Nat)] S P E := by
  refine call_def (d := Hd.f_l_share_text) rfl rfl ?_
  unfold Hd.f_l_share_text
  walk_at "am"
  have la := nT_300 ha
  have lb := nT_300 (lt300 hb)
  have ls : slash.length = 1 := by decide +kernel
  have hz : (1000 : Nat) ≤ sizeLine := by decide
  have l0 : Str.empty.length = 0 := rfl
  split
  · rename_i e
    have e : b = 1 := by omega
    rw [show shT a b = nT a from if_pos e] at hp
    exact ⟨lg ha, fin_keep hp⟩
  · rename_i e
    have e : ¬ b = 1 := by omega
    rw [show shT a b = nT a ++ slash ++ nT b from if_neg e] at hp
    have e0 : Str.empty ++ nT a = nT a := strx (by rw [app_cps]; rfl)
    refine ⟨lg ha, nT a, rfl, ?_, slash, rfl, ?_, lg (lt300 hb), nT b, rfl, ?_, ?_⟩
    · rw [e0]; omega
    · rw [e0, app_len]; omega
    · rw [e0, app_len, app_len]; omega
    · rw [e0]; exact fin_keep hp
theorem lvtext_ok (k : Nat) (v : Vw) (h : v.Ok) {S : Sto} {P : PV} {E : PX} (hp : P (.str v.tx) S) : call Hd.T (k + 2) "_law_value_text" [v.va] S P E := by
  refine call_def (d := Hd.f_l_value_text) rfl rfl ?_
  unfold Hd.f_l_value_text
  cases v <;> unfold Vw.va
  all_goals walk_at "am"
  · refine isin_tup (xs := [Str.ofString "hand", Str.ofString "start"]) ⟨true, by rw [tru_bl]; exact congrArg some (by decide +kernel), ?_⟩
    rw [if_pos rfl]
    exact fin_keep hp
  · refine isin_tup (xs := [Str.ofString "hand", Str.ofString "start"]) ⟨true, by rw [tru_bl]; exact congrArg some (by decide +kernel), ?_⟩
    rw [if_pos rfl]
    exact fin_keep hp
  · refine isin_tup (xs := [Str.ofString "hand", Str.ofString "start"]) ⟨false, by rw [tru_bl]; exact congrArg some (by decide +kernel), ?_⟩
    rw [if_neg (by decide)]
    exact fin_keep hp
  · refine isin_tup (xs := [Str.ofString "hand", Str.ofString "start"]) ⟨false, by rw [tru_bl]; exact congrArg some (by decide +kernel), ?_⟩
    rw [if_neg (by decide), if_neg (by decide +kernel), if_neg (by decide +kernel)]
    exact lshare_ok k h.1 h.2 (fin_keep hp)
  · rename_i w a b
    refine isin_tup (xs := [Str.ofString "hand", Str.ofString "start"]) ⟨false, by rw [tru_bl]; exact congrArg some (by decide +kernel), ?_⟩
    rw [if_neg (by decide), if_neg (by decide +kernel)]
    have l := shT_300 h.2.1 h.2.2
    refine lshare_ok k h.2.1 h.2.2 ?_
    walk_at "am"
    have ls : (Str.ofString " of ").length = 4 := by decide +kernel
    have lw := h.1
    refine ⟨by omega, by rw [app_len]; omega, fin_keep hp⟩
  · rename_i a b
    refine isin_tup (xs := [Str.ofString "hand", Str.ofString "start"]) ⟨false, by rw [tru_bl]; exact congrArg some (by decide +kernel), ?_⟩
    rw [if_neg (by decide), if_neg (by decide +kernel), if_neg (by decide +kernel)]
    have l := shT_300 h.1 h.2
    refine lshare_ok k h.1 h.2 ?_
    rw [if_neg (by decide +kernel)]
    walk_at "am"
    have ls : (Str.ofString " ").length = 1 := by decide +kernel
    have lw : (Str.ofString "part").length = 4 := by decide +kernel
    refine ⟨by omega, by rw [app_len]; omega, fin_keep hp⟩
  · rename_i a b
    refine isin_tup (xs := [Str.ofString "hand", Str.ofString "start"]) ⟨false, by rw [tru_bl]; exact congrArg some (by decide +kernel), ?_⟩
    rw [if_neg (by decide), if_neg (by decide +kernel), if_neg (by decide +kernel)]
    have l := shT_300 h.1 h.2
    refine lshare_ok k h.1 h.2 ?_
    rw [if_neg (by decide +kernel)]
    walk_at "am"
    have ls : (Str.ofString " ").length = 1 := by decide +kernel
    have lw : (Str.ofString "times").length = 5 := by decide +kernel
    refine ⟨by omega, by rw [app_len]; omega, fin_keep hp⟩
end NB
end

section
set_option linter.all false
set_option maxRecDepth 100000
set_option maxHeartbeats 4000000
/-! The law's own defs (k47). -/
open PySem
namespace NB
open PySem AM NM TR
local macro_rules | `(tactic| walk_at "am") => `(tactic| try simp only [W_fmt, W_js, WJ_nil, WJ_cons, WS_par, Ss_par, wFmt_str, wFmt_int, st_set0, st_setS, iteTrue, iteFalse, iteDec, iteNDec, exSome, exBl, W_var, W_int, W_bl, W_non, W_str, W_tup, W_lst, W_bin, W_neg, W_cmp, W_isN, W_notN, W_lrev, W_maxd, W_sortk, wIsb, wNisb, W_chain, W_chain3, W_tst, W_ite, W_call, W_len, W_abs, W_isi, W_sub, WT_val, WT_not, WT_and, WT_or, WA_one, WA_cons, WO_one, WO_cons, WB_val, WB_not, WB_and, WB_or, WBA_one, WBA_cons, WBO_one, WBO_cons, WL_nil, WL_cons, WS_set, WS_ret, WS_retN, WS_pass, WS_brk, WS_cont, WS_drop, WS_ite, WS_raise, WSs_nil, Ss_set, Ss_ret, Ss_retN, Ss_pass, Ss_brk, Ss_cont, Ss_drop, Ss_raise, Ss_ite_ret, Ss_ite_retN, Ss_ite_raise, Ss_ite_cont, Ss_ite_brk, Ss_ite_last, gt_0, gt_S, wAdd_int, wSub_int, wMul_int, wMul_rep, wMul_str, wDiv_int, wMod_int, wPow_int, wAdd_str, wNeg_int, wAbs_int, wLt_int, wLe_int, wGt_int, wGe_int, wEq_int, wNe_int, wEq_bl, wNe_bl, wEq_str, wNe_str, wLen_tup, wLen_lst, tru_bl, tru_int, ty_int_int, ty_int_bool, ty_int_str, ty_int_tuple, ty_int_list, ty_int_dict, ty_bl_int, ty_bl_bool, ty_bl_str, ty_bl_tuple, ty_bl_list, ty_bl_dict, ty_str_int, ty_str_bool, ty_str_str, ty_str_tuple, ty_str_list, ty_str_dict, ty_tup_int, ty_tup_bool, ty_tup_str, ty_tup_tuple, ty_tup_list, ty_tup_dict, ty_lst_int, ty_lst_bool, ty_lst_str, ty_lst_tuple, ty_lst_list, ty_lst_dict, ty_dct_int, ty_dct_bool, ty_dct_str, ty_dct_tuple, ty_dct_list, ty_dct_dict, ty_non, sub_tup0, sub_tup1, sub_tup2, sub_tup3, sub_tup4, sub_tup5, sub_lst0, sub_lst1, sub_lst2, sub_lst3, sub_lst4, sub_lst5, startA, List.map_cons, List.map_nil, List.length_cons, List.length_nil, List.replicate, List.cons_append, List.nil_append, true_and, and_true, ne_eq, isNon, Bool.not_true, Bool.not_false, Bool.true_or, Bool.or_true, Bool.false_or, reduceIte, Nat.reduceAdd, Nat.zero_add, Int.cast_ofNat_Int, Int.reduceEq, Int.reduceLT, Int.reduceLE, Nat.reduceLeDiff, decide_true, decide_false, not_true_eq_false, not_false_eq_true, Nat.reduceSub, Int.reduceToNat, W_slice, W_blt, W_mth, W_comp, WOe_none, WOe_some, WI_seq, WI_keys, WI_items, WI_range1, WI_range2, WI_enum, WI_zip, WI_rev, WI_revr, WI_rangeD, WT0_none, WT0_some, Ss_asg, Ss_setSub, Ss_aug, WS_asg, WS_aug, WS_for, WS_setC, bT_name, bT_tup, bT_lst, bTs_nil, bTs_name, seq_lst, seq_tup, seq_scr, seq_str, seq_loc, en_tup, en_lst, en_scr, en_loc, lst_lst, lst_scr, lst_loc, exInt, exLoc, exLst, exLst1, exLV_lst, exLV_loc, mOk_app, mOk_pop, mOk_ext, mOk_ins, mOk_ind, mOk_join, mOk_indl, m_append, m_pop, m_extend, m_insert, m_join, b_listL, b_listT, b_listS, b_listK, b_tupL, b_tupT, b_tupK, b_max2, b_min2, b_ord, b_str, sl_lst, sl_loc, sl_scr, sl_tupE, sl_strE, cat_lst, cat_loc, cat_tup, wLen_scr, wLen_loc, wLen_str, wSub_scr, wSub_loc, wSub_str, aug_add, aug_sub, tru_lst, tru_tup, tru_non, ty_scr_list, sg_p0, sg_pl, ss_p0, ss_pl, ob_set0, ob_set1, ob_set2, ob_set3, ob_g0, ob_g1, ob_g2, ob_g3, List.append_assoc, List.length_append, List.nil_append, Nat.add_zero, Nat.add_assoc, Int.reduceNeg, wipeA, orc_run, orc_glob, orc_init, orc_isa, orc_gdct, W_isc, W_isE, W_isEt, orc_xk, m_upper, m_partition, m_split, m_endswith, m_find, mOk_upper, mOk_partition, mOk_split, mOk_endswith, mOk_find, b_intB, W_glob, W_gget, W_fld, W_mcall, W_make, W_make0, W_dsp, Ss_setFld, subO_l, subO_d, subO_k, lenO_l, lenO_d, listO_l, listO_d, putO_l, keyV_int, keyV_str, wIn_str, wNotin_str, mapSome, at_0, at_1, at_2, at_3, at_4, at_5, ix_1_0, ix_2_0, ix_2_1, ix_3_0, ix_3_1, ix_3_2, ix_4_0, ix_4_1, ix_4_2, ix_4_3, va_s0, va_s1, va_s2, va_s3])
local macro_rules | `(tactic| walk_at "if") => `(tactic| (try simp only []); rw [Ss_ite]; simp only [W_fmt, W_js, WJ_nil, WJ_cons, WS_par, Ss_par, wFmt_str, wFmt_int, st_set0, st_setS, iteTrue, iteFalse, iteDec, iteNDec, exSome, exBl, W_var, W_int, W_bl, W_non, W_str, W_tup, W_lst, W_bin, W_neg, W_cmp, W_isN, W_notN, W_lrev, W_maxd, W_sortk, wIsb, wNisb, W_chain, W_chain3, W_tst, W_ite, W_call, W_len, W_abs, W_isi, W_sub, WT_val, WT_not, WT_and, WT_or, WA_one, WA_cons, WO_one, WO_cons, WB_val, WB_not, WB_and, WB_or, WBA_one, WBA_cons, WBO_one, WBO_cons, WL_nil, WL_cons, WS_set, WS_ret, WS_retN, WS_pass, WS_brk, WS_cont, WS_drop, WS_ite, WS_raise, WSs_nil, Ss_set, Ss_ret, Ss_retN, Ss_pass, Ss_brk, Ss_cont, Ss_drop, Ss_raise, Ss_ite_ret, Ss_ite_retN, Ss_ite_raise, Ss_ite_cont, Ss_ite_brk, Ss_ite_last, gt_0, gt_S, wAdd_int, wSub_int, wMul_int, wMul_rep, wMul_str, wDiv_int, wMod_int, wPow_int, wAdd_str, wNeg_int, wAbs_int, wLt_int, wLe_int, wGt_int, wGe_int, wEq_int, wNe_int, wEq_bl, wNe_bl, wEq_str, wNe_str, wLen_tup, wLen_lst, tru_bl, tru_int, ty_int_int, ty_int_bool, ty_int_str, ty_int_tuple, ty_int_list, ty_int_dict, ty_bl_int, ty_bl_bool, ty_bl_str, ty_bl_tuple, ty_bl_list, ty_bl_dict, ty_str_int, ty_str_bool, ty_str_str, ty_str_tuple, ty_str_list, ty_str_dict, ty_tup_int, ty_tup_bool, ty_tup_str, ty_tup_tuple, ty_tup_list, ty_tup_dict, ty_lst_int, ty_lst_bool, ty_lst_str, ty_lst_tuple, ty_lst_list, ty_lst_dict, ty_dct_int, ty_dct_bool, ty_dct_str, ty_dct_tuple, ty_dct_list, ty_dct_dict, ty_non, sub_tup0, sub_tup1, sub_tup2, sub_tup3, sub_tup4, sub_tup5, sub_lst0, sub_lst1, sub_lst2, sub_lst3, sub_lst4, sub_lst5, startA, List.map_cons, List.map_nil, List.length_cons, List.length_nil, List.replicate, List.cons_append, List.nil_append, true_and, and_true, ne_eq, isNon, Bool.not_true, Bool.not_false, Bool.true_or, Bool.or_true, Bool.false_or, reduceIte, Nat.reduceAdd, Nat.zero_add, Int.cast_ofNat_Int, Int.reduceEq, Int.reduceLT, Int.reduceLE, Nat.reduceLeDiff, decide_true, decide_false, not_true_eq_false, not_false_eq_true, Nat.reduceSub, Int.reduceToNat, W_slice, W_blt, W_mth, W_comp, WOe_none, WOe_some, WI_seq, WI_keys, WI_items, WI_range1, WI_range2, WI_enum, WI_zip, WI_rev, WI_revr, WI_rangeD, WT0_none, WT0_some, Ss_asg, Ss_setSub, Ss_aug, WS_asg, WS_aug, WS_for, WS_setC, bT_name, bT_tup, bT_lst, bTs_nil, bTs_name, seq_lst, seq_tup, seq_scr, seq_str, seq_loc, en_tup, en_lst, en_scr, en_loc, lst_lst, lst_scr, lst_loc, exInt, exLoc, exLst, exLst1, exLV_lst, exLV_loc, mOk_app, mOk_pop, mOk_ext, mOk_ins, mOk_ind, mOk_join, mOk_indl, m_append, m_pop, m_extend, m_insert, m_join, b_listL, b_listT, b_listS, b_listK, b_tupL, b_tupT, b_tupK, b_max2, b_min2, b_ord, b_str, sl_lst, sl_loc, sl_scr, sl_tupE, sl_strE, cat_lst, cat_loc, cat_tup, wLen_scr, wLen_loc, wLen_str, wSub_scr, wSub_loc, wSub_str, aug_add, aug_sub, tru_lst, tru_tup, tru_non, ty_scr_list, sg_p0, sg_pl, ss_p0, ss_pl, ob_set0, ob_set1, ob_set2, ob_set3, ob_g0, ob_g1, ob_g2, ob_g3, List.append_assoc, List.length_append, List.nil_append, Nat.add_zero, Nat.add_assoc, Int.reduceNeg, wipeA, orc_run, orc_glob, orc_init, orc_isa, orc_gdct, W_isc, W_isE, W_isEt, orc_xk, m_upper, m_partition, m_split, m_endswith, m_find, mOk_upper, mOk_partition, mOk_split, mOk_endswith, mOk_find, b_intB, W_glob, W_gget, W_fld, W_mcall, W_make, W_make0, W_dsp, Ss_setFld, subO_l, subO_d, subO_k, lenO_l, lenO_d, listO_l, listO_d, putO_l, keyV_int, keyV_str, wIn_str, wNotin_str, mapSome, at_0, at_1, at_2, at_3, at_4, at_5, ix_1_0, ix_2_0, ix_2_1, ix_3_0, ix_3_1, ix_3_2, ix_4_0, ix_4_1, ix_4_2, ix_4_3, va_s0, va_s1, va_s2, va_s3])
def prL : List Str := ["ink", "size", "wide", "least", "most", "grow", "shrink", "gap", "pad", "tall", "flow", "spread", "stand"]
def nuL : List Str := ["size", "wide", "least", "most", "grow", "shrink", "gap", "pad", "tall"]
theorem lprops_ok (k : Nat) {S : Sto} {P : PV} {E : PX} (h : P (.lst (prL.map Va.str)) S) : call Hd.T (k + 1) "_law_props" [] S P E := by
  refine call_def (d := Hd.f_l_props) rfl rfl ?_
  unfold Hd.f_l_props
  walk_at "am"
  exact fin_lst (i := 2) (xs := prL.map Va.str) rfl rfl h
/-- texts and whole numbers -/
def it (x : Va) : Prop := (∃ s, x = .str s ∧ PyData.strOk s = true) ∨ ∃ n, x = .int n
theorem it_dat : ∀ {xs : List Va}, (∀ x ∈ xs, it x) → dats xs = true ∧ deps xs ≤ 1
  | [], _ => ⟨rfl, by simp [deps]⟩
  | x :: r, h => by
    obtain ⟨a, b⟩ := it_dat (fun y hy => h y (List.mem_cons_of_mem _ hy))
    rcases h x List.mem_cons_self with ⟨s, rfl, o⟩ | ⟨n, rfl⟩
    · exact ⟨by simp only [dats, dat, o, a]; rfl, by simp only [deps, dep]; omega⟩
    · exact ⟨by simp only [dats, dat, a]; rfl, by simp only [deps, dep]; omega⟩
theorem whole_ok (k : Nat) (n : Int) {S : Sto} {P : PV} {E : PX} (h : P (.bl true) S) : call Hd.T (k + 1) "_law_whole" [.int n] S P E := by
  refine call_def (d := Hd.f_l_whole) rfl rfl ?_
  unfold Hd.f_l_whole
  walk_at "am"
  exact fin_keep h
theorem alike_ok (k : Nat) {xs : List Va} (hx : ∀ x ∈ xs, it x) (hl : xs.length ≤ 100) {S : Sto} {P : PV} {E : PX} (h : P (.bl true) S) : call Hd.T (k + 2) "_law_alike" [.tup xs, .tup xs] S P E := by
  refine call_def (d := Hd.f_l_alike) rfl rfl ?_
  unfold Hd.f_l_alike
  walk_at "am"
  refine seq_cut (call_mono _ _) (fun Γ S' => S' = S ∧ ∃ o, Γ = [some (.tup xs), some (.tup xs), o]) ?_ ?_
  · walk_at "am"
    refine ⟨by omega, by omega, ?_⟩
    refine for_ix (call_mono _ _) (fun i Γ S' => S' = S ∧ ∃ o, Γ = [some (.tup xs), some (.tup xs), o]) ⟨rfl, none, rfl⟩ ?_ ?_
    · rintro i x Γ S' hx' ⟨rfl, o, rfl⟩
      obtain ⟨hi, rfl⟩ := rangeV_get hx'
      refine ⟨_, rfl, ?_⟩
      have hi' : i < xs.length := by omega
      have e0 : (0 : Int) + (i : Nat) = (i : Nat) := by omega
      rw [e0]
      have hat : ∀ P : PV, P xs[i] S' → wSub (.tup xs) (.int (i : Nat)) S' P := fun P hP => ⟨_, L2.atI_nat (by simp [hi']), hP⟩
      rcases hx _ (List.getElem_mem hi') with ⟨s, es, _⟩ | ⟨n, en⟩
      · walk_at "am"
        refine hat _ ?_
        rw [es]
        walk_at "am"
        refine hat _ ?_
        rw [es]
        walk_at "am"
        refine hat _ ?_
        rw [es]
        walk_at "am"
        exact ⟨_, rfl⟩
      · walk_at "am"
        refine hat _ ?_
        rw [en]
        walk_at "am"
        refine hat _ ?_
        rw [en]
        walk_at "am"
        refine hat _ ?_
        rw [en]
        walk_at "am"
        refine whole_ok _ n ?_
        walk_at "am"
        exact ⟨_, rfl⟩
    · rintro Γ S' ⟨rfl, o, rfl⟩
      exact ⟨rfl, o, rfl⟩
  rintro Γ S' ⟨rfl, o, rfl⟩
  walk_at "am"
  obtain ⟨d1, d2⟩ := it_dat hx
  refine eq_by (d := .tup xs) (dv_pd d1) (dv_pd d1) d1 (by simp only [dep]; omega) ?_
  exact fin_keep h
theorem lmod {a b : Int} (h : b ≠ 0) : True := trivial
theorem divi_ok (k : Nat) (a b : Nat) {S : Sto} {P : PV} {E : PX} (h : P (.int (Nat.gcd a b : Nat)) S) : call Hd.T (k + 1) "_law_divisor" [.int (a : Nat), .int (b : Nat)] S P E := by
  refine call_def (d := Hd.f_l_divisor) rfl rfl ?_
  unfold Hd.f_l_divisor
  walk_at "am"
  refine wh_ix (call_mono _ k) (fun (z : Nat × Nat) => [some (.int (z.1 : Nat)), some (.int (z.2 : Nat))]) (fun z => Nat.gcd z.1 z.2 = Nat.gcd a b) (fun z => z.2) (a, b) rfl ?_
  rintro ⟨x, y⟩ e
  walk_at "am"
  simp only at e
  split
  · rename_i h0
    have h0 : y = 0 := by omega
    subst h0
    rw [Nat.gcd_zero_right] at e
    rw [← e] at h
    exact fin_keep h
  · rename_i h0
    have h0 : y ≠ 0 := by omega
    refine ⟨by omega, (y, x % y), ?_, ?_, Nat.mod_lt _ (by omega)⟩
    · rw [Int.fmod_eq_emod_of_nonneg _ (by omega)]; rfl
    · show Nat.gcd y (x % y) = _
      rw [← e, Nat.gcd_comm x y, Nat.gcd_rec y x, Nat.gcd_comm]
theorem lowest_ok (k : Nat) (a b : Nat) (hb : 1 ≤ b) (hl : b < 10 ^ 30) {S : Sto} {P : PV} {E : PX} (h : P (.tup [.int ((a / Nat.gcd a b : Nat) : Int), .int ((b / Nat.gcd a b : Nat) : Int)]) S) : call Hd.T (k + 2) "_law_lowest" [.int (a : Nat), .int (b : Nat)] S P E := by
  refine call_def (d := Hd.f_l_lowest) rfl rfl ?_
  unfold Hd.f_l_lowest
  walk_at "am"
  refine divi_ok k a b ?_
  walk_at "am"
  have g1 : 1 ≤ Nat.gcd a b := Nat.gcd_pos_of_pos_right a hb
  have g2 : Nat.gcd a b ≤ b := Nat.gcd_le_right a hb
  have e1 : ((a : Nat) : Int).fdiv ((Nat.gcd a b : Nat) : Int) = ((a / Nat.gcd a b : Nat) : Int) := by rw [Int.fdiv_eq_ediv_of_nonneg _ (by omega)]; rfl
  have e2 : ((b : Nat) : Int).fdiv ((Nat.gcd a b : Nat) : Int) = ((b / Nat.gcd a b : Nat) : Int) := by rw [Int.fdiv_eq_ediv_of_nonneg _ (by omega)]; rfl
  have c : CDivA ((Nat.gcd a b : Nat) : Int) := cdv _ (by omega) (Nat.lt_of_lt_of_le (show _ < 10 ^ 30 by omega) (by decide))
  rw [e1, e2]
  exact ⟨c, c, fin_keep h⟩
/-- a value that is drawn -/
def Gd : Vw → Prop
  | .word w => ∃ cs, Nm cs ∧ w = sx cs ∧ w ≠ Str.ofString "hand" ∧ w ≠ Str.ofString "start"
  | .num a b => a < 10 ^ 30 ∧ b < 10 ^ 30 ∧ 1 ≤ b
  | .of w a b => w ∈ nuL ∧ a < 10 ^ 30 ∧ b < 10 ^ 30 ∧ 1 ≤ b
  | .part a b => a < 10 ^ 30 ∧ b < 10 ^ 30 ∧ 1 ≤ b
  | .times a b => a < 10 ^ 30 ∧ b < 10 ^ 30 ∧ 1 ≤ b
  | _ => True
theorem nuL_ok : ∀ w ∈ nuL, w.length ≤ 100 ∧ 32 ∉ TL.tl w ∧ PyData.strOk w = true := by
  intro q hq
  simp only [nuL, List.mem_cons, List.not_mem_nil, or_false] at hq
  rcases hq with rfl | rfl | rfl | rfl | rfl | rfl | rfl | rfl | rfl <;> decide +kernel
theorem Gd.ok {v : Vw} (h : Gd v) : v.Ok := by
  cases v with
  | hand => trivial
  | start => trivial
  | word w => obtain ⟨cs, n, rfl, _, _⟩ := h; show (sx cs).length ≤ 100; rw [sx_len]; have := n.max; omega
  | num a b => exact ⟨lt300 h.1, h.2.1⟩
  | of w a b => exact ⟨(nuL_ok w h.1).1, lt300 h.2.1, h.2.2.1⟩
  | part a b => exact ⟨lt300 h.1, h.2.1⟩
  | times a b => exact ⟨lt300 h.1, h.2.1⟩
theorem read_ok (k : Nat) {v : Vw} (h : Gd v) {S : Sto} {P : PV} {E : PX} (hp : P v.va S) : call Hd.T (k + 3) "read_value" [.str v.tx] S P E := by
  cases v with
  | hand => exact read_value_sign k (.inl rfl) hp
  | start => exact read_value_sign k (.inr rfl) hp
  | word w => obtain ⟨cs, n, rfl, n1, n2⟩ := h; exact read_value_word k n n1 n2 hp
  | num a b => exact read_value_num k h.1 h.2.1 h.2.2 hp
  | of w a b => exact read_value_three k h.2.1 h.2.2.1 h.2.2.2 (xs := nuL) rfl h.1 (nuL_ok w h.1).1 (nuL_ok w h.1).2.1 hp
  | part a b => exact read_value_two k h.1 h.2.1 h.2.2 (.inl rfl) hp
  | times a b => exact read_value_two k h.1 h.2.1 h.2.2 (.inr rfl) hp
theorem it_s {s : Str} (h : PyData.strOk s = true) : it (.str s) := .inl ⟨s, rfl, h⟩
theorem it_n (n : Int) : it (.int n) := .inr ⟨n, rfl⟩
theorem all1 {p : Va → Prop} {x : Va} (h : p x) : ∀ y ∈ [x], p y := fun y hy => by rw [List.mem_singleton.mp hy]; exact h
theorem allC {p : Va → Prop} {x : Va} {r : List Va} (h : p x) (hr : ∀ y ∈ r, p y) : ∀ y ∈ x :: r, p y := fun y hy => by
  rcases List.mem_cons.mp hy with rfl | z
  · exact h
  · exact hr y z
theorem gd_it {v : Vw} (h : Gd v) : ∃ xs, v.va = .tup xs ∧ (∀ x ∈ xs, it x) ∧ xs.length ≤ 100 := by
  cases v with
  | hand => exact ⟨_, rfl, all1 (it_s (by decide +kernel)), by simp⟩
  | start => exact ⟨_, rfl, all1 (it_s (by decide +kernel)), by simp⟩
  | word w => obtain ⟨cs, n, rfl, n1, n2⟩ := h; exact ⟨_, rfl, allC (it_s (by decide +kernel)) (all1 (it_s (nm_sok n))), by simp⟩
  | num a b => exact ⟨_, rfl, allC (it_s (by decide +kernel)) (allC (it_n _) (all1 (it_n _))), by simp⟩
  | of w a b => exact ⟨_, rfl, allC (it_s (by decide +kernel)) (allC (it_s (nuL_ok w h.1).2.2) (allC (it_n _) (all1 (it_n _)))), by simp⟩
  | part a b => exact ⟨_, rfl, allC (it_s (by decide +kernel)) (allC (it_n _) (all1 (it_n _))), by simp⟩
  | times a b => exact ⟨_, rfl, allC (it_s (by decide +kernel)) (allC (it_n _) (all1 (it_n _))), by simp⟩
def gdB (w : Str) : Bool := decide (1 ≤ w.cps.toList.length) && decide (w.cps.toList.length ≤ 8) && w.cps.toList.all (fun c => decide (97 ≤ c) && decide (c ≤ 122)) && decide (w ≠ Str.ofString "hand") && decide (w ≠ Str.ofString "start")
theorem gdw {w : Str} (h : gdB w = true) : Gd (.word w) := by
  unfold gdB at h
  simp only [Bool.and_eq_true, decide_eq_true_eq, List.all_eq_true] at h
  obtain ⟨⟨⟨⟨a, b⟩, c⟩, d⟩, e⟩ := h
  exact ⟨w.cps.toList, ⟨a, b, c⟩, (sx_self w).symm, d, e⟩
theorem words_end {S N : Sto} {j : Nat} {ws : List Str} (hN : N[j]? = some (.lst (ws.map Va.str))) (hw : 1 ≤ ws.length) (m : Int) {P : PV} (h : ∀ w ∈ ws, P (.str w) (S ++ N)) : wLen (.loc (S.length + j)) (S ++ N) (fun y S2 => wBin .mod (.int (m.fdiv 7)) y S2 fun y S2 => wSub (.loc (S.length + j)) y S2 P) := by
  rw [wLen_loc]
  refine ⟨_, by rw [sg_pl]; exact hN, ?_⟩
  rw [lenO_l, wMod_int]
  refine ⟨by rw [List.length_map]; omega, ?_⟩
  rw [wSub_loc]
  refine ⟨_, by rw [sg_pl]; exact hN, ?_⟩
  rw [subO_l]
  have k := fm (m.fdiv 7) (ws.length : Nat) (by omega)
  obtain ⟨i, hi⟩ := Int.eq_ofNat_of_zero_le k.1
  have hlt : i < ws.length := by omega
  rw [List.length_map, hi]
  exact ⟨_, L2.atI_nat (by rw [List.getElem?_map, List.getElem?_eq_getElem hlt]; rfl), h _ (List.getElem_mem hlt)⟩
def tlS : Nat → Sms → Sms
  | n + 1, .cons _ ss => tlS n ss
  | _, ss => ss
theorem noted_tail (k : Nat) {p : Str} (c o w m : Int) (m0 : 0 ≤ m) (m1 : m < 1000003) {S N : Sto} {P : PV} {E : PX} (x5 : Option Va) (x6 : Va) (h : ∀ v : Vw, Gd v → P v.va S) :
    WSs (orc Hd.T (k + 2)) (tlS 8 Hd.f_l_noted.body) { nx := fun x S' => fin S P Va.non S', rt := fin S P, ex := fun x x_1 S' => finX S E x S' } [some (.str p), some (.int c), some (.int o), some (.int w), some (.int m), x5, some x6, some (.tup [.int (c.fmod (10 ^ 30)), .int (1 + o.fmod (10 ^ 30 - 1))])] (S ++ N) := by
  unfold Hd.f_l_noted
  simp only [tlS]
  refine seq_cut (call_mono _ _) (fun Γ S' => S' = S ++ N ∧ ∃ a b : Nat, a < 10 ^ 30 ∧ b < 10 ^ 30 ∧ 1 ≤ b ∧ Γ = [some (.str p), some (.int c), some (.int o), some (.int w), some (.int m), x5, some x6, some (.tup [.int (a : Nat), .int (b : Nat)])]) ?_ ?_
  · walk_at "am"
    refine ⟨cdv 7 (by decide) (by decide), ?_⟩
    split
    · have d21 := fd0 (c := m) (m := 21) m0 (by decide)
      have d252 := fd0 (c := m) (m := 252) m0 (by decide)
      have f1 := fm (m.fdiv 21) 12 (by decide)
      have f2 := fm (m.fdiv 252) 4 (by decide)
      obtain ⟨a, ha⟩ := Int.eq_ofNat_of_zero_le f1.1
      obtain ⟨b, hb⟩ := Int.eq_ofNat_of_zero_le f2.1
      refine ⟨cdv 21 (by decide) (by decide), cdv 252 (by decide) (by decide), a, b + 1, by omega, by omega, by omega, ?_⟩
      rw [ha, hb, show (1 : Int) + (b : Nat) = ((b + 1 : Nat) : Int) by omega]
    · have f1 := fm c (10 ^ 30) (by decide)
      have f2 := fm o (10 ^ 30 - 1) (by decide)
      obtain ⟨a, ha⟩ := Int.eq_ofNat_of_zero_le f1.1
      obtain ⟨b, hb⟩ := Int.eq_ofNat_of_zero_le f2.1
      refine ⟨a, b + 1, by omega, by omega, by omega, ?_⟩
      rw [ha, hb, show (1 : Int) + (b : Nat) = ((b + 1 : Nat) : Int) by omega]
  rintro Γ S' ⟨rfl, a, b, ha, hb, b1, rfl⟩
  walk_at "am"
  have k9 := fm (m.fdiv 21) 9 (by decide)
  obtain ⟨i9, hi9⟩ := Int.eq_ofNat_of_zero_le k9.1
  have k2 := fm m 2 (by decide)
  obtain ⟨i2, hi2⟩ := Int.eq_ofNat_of_zero_le k2.1
  have i22 : i2 = 0 ∨ i2 = 1 := by omega
  split
  · refine lprops_ok _ ?_
    walk_at "am"
    have hlt : i9 < nuL.length := by show i9 < 9; omega
    refine ⟨cdv 21 (by decide) (by decide), .str nuL[i9], ?_, ?_⟩
    · rw [hi9, show (1 : Int) + (i9 : Nat) = ((i9 + 1 : Nat) : Int) by omega]
      refine L2.atI_nat ?_
      rw [List.getElem?_map, show prL = Str.ofString "ink" :: (nuL ++ [Str.ofString "flow", Str.ofString "spread", Str.ofString "stand"]) from rfl, List.getElem?_cons_succ, List.getElem?_append_left hlt, List.getElem?_eq_getElem hlt]
      rfl
    · exact fin_val rfl (h (.of nuL[i9] a b) ⟨List.getElem_mem hlt, ha, hb, b1⟩)
  split
  · refine isin_tup (xs := [Str.ofString "wide", Str.ofString "least", Str.ofString "most"]) ⟨_, tru_bl, ?_⟩
    split
    · exact fin_val rfl (h (.part a b) ⟨ha, hb, b1⟩)
    · rw [hi2]
      rcases i22 with rfl | rfl
      · exact ⟨_, rfl, by first | exact fin_val rfl (h (.num a b) ⟨ha, hb, b1⟩) | (rw [List.append_assoc]; exact fin_val rfl (h (.num a b) ⟨ha, hb, b1⟩))⟩
      · exact ⟨_, rfl, by first | exact fin_val rfl (h (.times a b) ⟨ha, hb, b1⟩) | (rw [List.append_assoc]; exact fin_val rfl (h (.times a b) ⟨ha, hb, b1⟩))⟩
  · rw [hi2]
    rcases i22 with rfl | rfl
    · exact ⟨_, rfl, by first | exact fin_val rfl (h (.num a b) ⟨ha, hb, b1⟩) | (rw [List.append_assoc]; exact fin_val rfl (h (.num a b) ⟨ha, hb, b1⟩))⟩
    · exact ⟨_, rfl, by first | exact fin_val rfl (h (.times a b) ⟨ha, hb, b1⟩) | (rw [List.append_assoc]; exact fin_val rfl (h (.times a b) ⟨ha, hb, b1⟩))⟩
theorem noted_ok (k : Nat) {p : Str} (hp : p ∈ prL) (c o w : Int) (hc : Cb c) (ho : Cb o) (hw : w.natAbs ≤ 15000) {S : Sto} {P : PV} {E : PX} (h : ∀ v : Vw, Gd v → P v.va S) : call Hd.T (k + 3) "_law_noted" [.str p, .int c, .int o, .int w] S P E := by
  refine call_def (d := Hd.f_l_noted) rfl rfl ?_
  unfold Hd.f_l_noted
  walk_at "am"
  refine mix_ok nmT _ c w hc (by omega) fun m m0 m1 => ?_
  walk_at "am"
  have k2 := fm m 2 (by decide)
  obtain ⟨i2, hi2⟩ := Int.eq_ofNat_of_zero_le k2.1
  have i22 : i2 = 0 ∨ i2 = 1 := by omega
  split
  · rw [hi2]
    rcases i22 with rfl | rfl
    · exact ⟨_, rfl, fin_val rfl (h .hand trivial)⟩
    · exact ⟨_, rfl, fin_val rfl (h .start trivial)⟩
  walk_at "if"
  split
  · refine name_ok nmT _ o (w + 1) ho (by omega) fun cs hcs => ?_
    walk_at "am"
    refine isin_tup (xs := [Str.ofString "hand", Str.ofString "start"]) ⟨_, tru_bl, ?_⟩
    split
    · exact fin_keep (h (.word (Str.ofString "of")) ⟨[111, 102], ⟨by decide, by decide, by decide⟩, by decide +kernel, by decide +kernel, by decide +kernel⟩)
    · rename_i hn
      have hn : sx cs ∉ [Str.ofString "hand", Str.ofString "start"] := fun z => hn (decide_eq_true z)
      simp only [List.mem_cons, List.not_mem_nil, or_false, not_or] at hn
      exact fin_keep (h (.word (sx cs)) ⟨cs, hcs, rfl, hn.1, hn.2⟩)
  rename_i hni
  refine ⟨_, rfl, by simp, _, rfl, _, rfl, ?_⟩
  refine isin_tup (xs := [Str.ofString "flow", Str.ofString "spread", Str.ofString "stand"]) ⟨_, tru_bl, ?_⟩
  simp only [prL, List.mem_cons, List.not_mem_nil, or_false] at hp
  have gw : ∀ ws : List Str, ws.all gdB = true → ∀ w ∈ ws, ∀ N : Sto, fin S P (.tup [.str (Str.ofString "word"), .str w]) (S ++ N) := fun ws ha w hw N => fin_val rfl (h (.word w) (gdw (List.all_eq_true.mp ha w hw)))
  rcases hp with rfl | rfl | rfl | rfl | rfl | rfl | rfl | rfl | rfl | rfl | rfl | rfl | rfl
  · exact absurd rfl hni
  · rw [if_neg (by decide)]
    refine ⟨_, by rw [sg_p0]; rfl, ?_⟩
    refine ⟨_, rfl, false, rfl, ?_⟩
    rw [if_neg (by decide)]
    exact ⟨c30, by decide, c30, by decide, noted_tail k c o w m m0 m1 _ _ h⟩
  · rw [if_neg (by decide)]
    refine ⟨_, by rw [sg_p0]; rfl, ?_⟩
    refine ⟨_, rfl, true, rfl, ?_⟩
    rw [if_pos rfl]
    split
    · refine ⟨_, by rw [sg_p0]; rfl, ?_⟩
      rw [subO_d]
      refine ⟨_, rfl, _, rfl, cdv 7 (by decide) (by decide), _, by rw [sg_p0]; rfl, ?_⟩
      rw [subO_d]
      refine ⟨_, rfl, _, rfl, ?_⟩
      exact words_end (j := 1) (ws := [Str.ofString "auto"]) rfl (by decide) m fun w hw => gw [Str.ofString "auto"] (by decide +kernel) w hw _
    · exact ⟨c30, by decide, c30, by decide, noted_tail k c o w m m0 m1 _ _ h⟩
  · rw [if_neg (by decide)]
    refine ⟨_, by rw [sg_p0]; rfl, ?_⟩
    refine ⟨_, rfl, false, rfl, ?_⟩
    rw [if_neg (by decide)]
    exact ⟨c30, by decide, c30, by decide, noted_tail k c o w m m0 m1 _ _ h⟩
  · rw [if_neg (by decide)]
    refine ⟨_, by rw [sg_p0]; rfl, ?_⟩
    refine ⟨_, rfl, true, rfl, ?_⟩
    rw [if_pos rfl]
    split
    · refine ⟨_, by rw [sg_p0]; rfl, ?_⟩
      rw [subO_d]
      refine ⟨_, rfl, _, rfl, cdv 7 (by decide) (by decide), _, by rw [sg_p0]; rfl, ?_⟩
      rw [subO_d]
      refine ⟨_, rfl, _, rfl, ?_⟩
      exact words_end (j := 2) (ws := [Str.ofString "none"]) rfl (by decide) m fun w hw => gw [Str.ofString "none"] (by decide +kernel) w hw _
    · exact ⟨c30, by decide, c30, by decide, noted_tail k c o w m m0 m1 _ _ h⟩
  · rw [if_neg (by decide)]
    refine ⟨_, by rw [sg_p0]; rfl, ?_⟩
    refine ⟨_, rfl, false, rfl, ?_⟩
    rw [if_neg (by decide)]
    exact ⟨c30, by decide, c30, by decide, noted_tail k c o w m m0 m1 _ _ h⟩
  · rw [if_neg (by decide)]
    refine ⟨_, by rw [sg_p0]; rfl, ?_⟩
    refine ⟨_, rfl, false, rfl, ?_⟩
    rw [if_neg (by decide)]
    exact ⟨c30, by decide, c30, by decide, noted_tail k c o w m m0 m1 _ _ h⟩
  · rw [if_neg (by decide)]
    refine ⟨_, by rw [sg_p0]; rfl, ?_⟩
    refine ⟨_, rfl, false, rfl, ?_⟩
    rw [if_neg (by decide)]
    exact ⟨c30, by decide, c30, by decide, noted_tail k c o w m m0 m1 _ _ h⟩
  · rw [if_neg (by decide)]
    refine ⟨_, by rw [sg_p0]; rfl, ?_⟩
    refine ⟨_, rfl, false, rfl, ?_⟩
    rw [if_neg (by decide)]
    exact ⟨c30, by decide, c30, by decide, noted_tail k c o w m m0 m1 _ _ h⟩
  · rw [if_neg (by decide)]
    refine ⟨_, by rw [sg_p0]; rfl, ?_⟩
    refine ⟨_, rfl, false, rfl, ?_⟩
    rw [if_neg (by decide)]
    exact ⟨c30, by decide, c30, by decide, noted_tail k c o w m m0 m1 _ _ h⟩
  · rw [if_pos (by decide)]
    refine ⟨_, by rw [sg_p0]; rfl, ?_⟩
    rw [subO_d]
    refine ⟨_, rfl, _, rfl, cdv 7 (by decide) (by decide), _, by rw [sg_p0]; rfl, ?_⟩
    rw [subO_d]
    refine ⟨_, rfl, _, rfl, ?_⟩
    exact words_end (j := 3) (ws := [Str.ofString "stack", Str.ofString "row", Str.ofString "wrap", Str.ofString "fair"]) rfl (by decide) m fun w hw => gw [Str.ofString "stack", Str.ofString "row", Str.ofString "wrap", Str.ofString "fair"] (by decide +kernel) w hw _
  · rw [if_pos (by decide)]
    refine ⟨_, by rw [sg_p0]; rfl, ?_⟩
    rw [subO_d]
    refine ⟨_, rfl, _, rfl, cdv 7 (by decide) (by decide), _, by rw [sg_p0]; rfl, ?_⟩
    rw [subO_d]
    refine ⟨_, rfl, _, rfl, ?_⟩
    exact words_end (j := 4) (ws := [Str.ofString "left", Str.ofString "middle", Str.ofString "right", Str.ofString "apart"]) rfl (by decide) m fun w hw => gw [Str.ofString "left", Str.ofString "middle", Str.ofString "right", Str.ofString "apart"] (by decide +kernel) w hw _
  · rw [if_pos (by decide)]
    refine ⟨_, by rw [sg_p0]; rfl, ?_⟩
    rw [subO_d]
    refine ⟨_, rfl, _, rfl, cdv 7 (by decide) (by decide), _, by rw [sg_p0]; rfl, ?_⟩
    rw [subO_d]
    refine ⟨_, rfl, _, rfl, ?_⟩
    exact words_end (j := 5) (ws := [Str.ofString "top", Str.ofString "middle", Str.ofString "bottom", Str.ofString "full"]) rfl (by decide) m fun w hw => gw [Str.ofString "top", Str.ofString "middle", Str.ofString "bottom", Str.ofString "full"] (by decide +kernel) w hw _
end NB
end

section
set_option linter.all false
set_option maxRecDepth 100000
set_option maxHeartbeats 4000000
/-! Law k47. -/
open PySem
namespace NB
open PySem AM NM TR
local macro_rules | `(tactic| walk_at "am") => `(tactic| try simp only [W_fmt, W_js, WJ_nil, WJ_cons, WS_par, Ss_par, wFmt_str, wFmt_int, st_set0, st_setS, iteTrue, iteFalse, iteDec, iteNDec, exSome, exBl, W_var, W_int, W_bl, W_non, W_str, W_tup, W_lst, W_bin, W_neg, W_cmp, W_isN, W_notN, W_lrev, W_maxd, W_sortk, wIsb, wNisb, W_chain, W_chain3, W_tst, W_ite, W_call, W_len, W_abs, W_isi, W_sub, WT_val, WT_not, WT_and, WT_or, WA_one, WA_cons, WO_one, WO_cons, WB_val, WB_not, WB_and, WB_or, WBA_one, WBA_cons, WBO_one, WBO_cons, WL_nil, WL_cons, WS_set, WS_ret, WS_retN, WS_pass, WS_brk, WS_cont, WS_drop, WS_ite, WS_raise, WSs_nil, Ss_set, Ss_ret, Ss_retN, Ss_pass, Ss_brk, Ss_cont, Ss_drop, Ss_raise, Ss_ite_ret, Ss_ite_retN, Ss_ite_raise, Ss_ite_cont, Ss_ite_brk, Ss_ite_last, gt_0, gt_S, wAdd_int, wSub_int, wMul_int, wMul_rep, wMul_str, wDiv_int, wMod_int, wPow_int, wAdd_str, wNeg_int, wAbs_int, wLt_int, wLe_int, wGt_int, wGe_int, wEq_int, wNe_int, wEq_bl, wNe_bl, wEq_str, wNe_str, wLen_tup, wLen_lst, tru_bl, tru_int, ty_int_int, ty_int_bool, ty_int_str, ty_int_tuple, ty_int_list, ty_int_dict, ty_bl_int, ty_bl_bool, ty_bl_str, ty_bl_tuple, ty_bl_list, ty_bl_dict, ty_str_int, ty_str_bool, ty_str_str, ty_str_tuple, ty_str_list, ty_str_dict, ty_tup_int, ty_tup_bool, ty_tup_str, ty_tup_tuple, ty_tup_list, ty_tup_dict, ty_lst_int, ty_lst_bool, ty_lst_str, ty_lst_tuple, ty_lst_list, ty_lst_dict, ty_dct_int, ty_dct_bool, ty_dct_str, ty_dct_tuple, ty_dct_list, ty_dct_dict, ty_non, sub_tup0, sub_tup1, sub_tup2, sub_tup3, sub_tup4, sub_tup5, sub_lst0, sub_lst1, sub_lst2, sub_lst3, sub_lst4, sub_lst5, startA, List.map_cons, List.map_nil, List.length_cons, List.length_nil, List.replicate, List.cons_append, List.nil_append, true_and, and_true, ne_eq, isNon, Bool.not_true, Bool.not_false, Bool.true_or, Bool.or_true, Bool.false_or, reduceIte, Nat.reduceAdd, Nat.zero_add, Int.cast_ofNat_Int, Int.reduceEq, Int.reduceLT, Int.reduceLE, Nat.reduceLeDiff, decide_true, decide_false, not_true_eq_false, not_false_eq_true, Nat.reduceSub, Int.reduceToNat, W_slice, W_blt, W_mth, W_comp, WOe_none, WOe_some, WI_seq, WI_keys, WI_items, WI_range1, WI_range2, WI_enum, WI_zip, WI_rev, WI_revr, WI_rangeD, WT0_none, WT0_some, Ss_asg, Ss_setSub, Ss_aug, WS_asg, WS_aug, WS_for, WS_setC, bT_name, bT_tup, bT_lst, bTs_nil, bTs_name, seq_lst, seq_tup, seq_scr, seq_str, seq_loc, en_tup, en_lst, en_scr, en_loc, lst_lst, lst_scr, lst_loc, exInt, exLoc, exLst, exLst1, exLV_lst, exLV_loc, mOk_app, mOk_pop, mOk_ext, mOk_ins, mOk_ind, mOk_join, mOk_indl, m_append, m_pop, m_extend, m_insert, m_join, b_listL, b_listT, b_listS, b_listK, b_tupL, b_tupT, b_tupK, b_max2, b_min2, b_ord, b_str, sl_lst, sl_loc, sl_scr, sl_tupE, sl_strE, cat_lst, cat_loc, cat_tup, wLen_scr, wLen_loc, wLen_str, wSub_scr, wSub_loc, wSub_str, aug_add, aug_sub, tru_lst, tru_tup, tru_non, ty_scr_list, sg_p0, sg_pl, ss_p0, ss_pl, ob_set0, ob_set1, ob_set2, ob_set3, ob_g0, ob_g1, ob_g2, ob_g3, List.append_assoc, List.length_append, List.nil_append, Nat.add_zero, Nat.add_assoc, Int.reduceNeg, wipeA, orc_run, orc_glob, orc_init, orc_isa, orc_gdct, W_isc, W_isE, W_isEt, orc_xk, m_upper, m_partition, m_split, m_endswith, m_find, mOk_upper, mOk_partition, mOk_split, mOk_endswith, mOk_find, b_intB, W_glob, W_gget, W_fld, W_mcall, W_make, W_make0, W_dsp, Ss_setFld, subO_l, subO_d, subO_k, lenO_l, lenO_d, listO_l, listO_d, putO_l, keyV_int, keyV_str, wIn_str, wNotin_str, mapSome, at_0, at_1, at_2, at_3, at_4, at_5, ix_1_0, ix_2_0, ix_2_1, ix_3_0, ix_3_1, ix_3_2, ix_4_0, ix_4_1, ix_4_2, ix_4_3, va_s0, va_s1, va_s2, va_s3])
local macro_rules | `(tactic| walk_at "if") => `(tactic| (try simp only []); rw [Ss_ite]; simp only [W_fmt, W_js, WJ_nil, WJ_cons, WS_par, Ss_par, wFmt_str, wFmt_int, st_set0, st_setS, iteTrue, iteFalse, iteDec, iteNDec, exSome, exBl, W_var, W_int, W_bl, W_non, W_str, W_tup, W_lst, W_bin, W_neg, W_cmp, W_isN, W_notN, W_lrev, W_maxd, W_sortk, wIsb, wNisb, W_chain, W_chain3, W_tst, W_ite, W_call, W_len, W_abs, W_isi, W_sub, WT_val, WT_not, WT_and, WT_or, WA_one, WA_cons, WO_one, WO_cons, WB_val, WB_not, WB_and, WB_or, WBA_one, WBA_cons, WBO_one, WBO_cons, WL_nil, WL_cons, WS_set, WS_ret, WS_retN, WS_pass, WS_brk, WS_cont, WS_drop, WS_ite, WS_raise, WSs_nil, Ss_set, Ss_ret, Ss_retN, Ss_pass, Ss_brk, Ss_cont, Ss_drop, Ss_raise, Ss_ite_ret, Ss_ite_retN, Ss_ite_raise, Ss_ite_cont, Ss_ite_brk, Ss_ite_last, gt_0, gt_S, wAdd_int, wSub_int, wMul_int, wMul_rep, wMul_str, wDiv_int, wMod_int, wPow_int, wAdd_str, wNeg_int, wAbs_int, wLt_int, wLe_int, wGt_int, wGe_int, wEq_int, wNe_int, wEq_bl, wNe_bl, wEq_str, wNe_str, wLen_tup, wLen_lst, tru_bl, tru_int, ty_int_int, ty_int_bool, ty_int_str, ty_int_tuple, ty_int_list, ty_int_dict, ty_bl_int, ty_bl_bool, ty_bl_str, ty_bl_tuple, ty_bl_list, ty_bl_dict, ty_str_int, ty_str_bool, ty_str_str, ty_str_tuple, ty_str_list, ty_str_dict, ty_tup_int, ty_tup_bool, ty_tup_str, ty_tup_tuple, ty_tup_list, ty_tup_dict, ty_lst_int, ty_lst_bool, ty_lst_str, ty_lst_tuple, ty_lst_list, ty_lst_dict, ty_dct_int, ty_dct_bool, ty_dct_str, ty_dct_tuple, ty_dct_list, ty_dct_dict, ty_non, sub_tup0, sub_tup1, sub_tup2, sub_tup3, sub_tup4, sub_tup5, sub_lst0, sub_lst1, sub_lst2, sub_lst3, sub_lst4, sub_lst5, startA, List.map_cons, List.map_nil, List.length_cons, List.length_nil, List.replicate, List.cons_append, List.nil_append, true_and, and_true, ne_eq, isNon, Bool.not_true, Bool.not_false, Bool.true_or, Bool.or_true, Bool.false_or, reduceIte, Nat.reduceAdd, Nat.zero_add, Int.cast_ofNat_Int, Int.reduceEq, Int.reduceLT, Int.reduceLE, Nat.reduceLeDiff, decide_true, decide_false, not_true_eq_false, not_false_eq_true, Nat.reduceSub, Int.reduceToNat, W_slice, W_blt, W_mth, W_comp, WOe_none, WOe_some, WI_seq, WI_keys, WI_items, WI_range1, WI_range2, WI_enum, WI_zip, WI_rev, WI_revr, WI_rangeD, WT0_none, WT0_some, Ss_asg, Ss_setSub, Ss_aug, WS_asg, WS_aug, WS_for, WS_setC, bT_name, bT_tup, bT_lst, bTs_nil, bTs_name, seq_lst, seq_tup, seq_scr, seq_str, seq_loc, en_tup, en_lst, en_scr, en_loc, lst_lst, lst_scr, lst_loc, exInt, exLoc, exLst, exLst1, exLV_lst, exLV_loc, mOk_app, mOk_pop, mOk_ext, mOk_ins, mOk_ind, mOk_join, mOk_indl, m_append, m_pop, m_extend, m_insert, m_join, b_listL, b_listT, b_listS, b_listK, b_tupL, b_tupT, b_tupK, b_max2, b_min2, b_ord, b_str, sl_lst, sl_loc, sl_scr, sl_tupE, sl_strE, cat_lst, cat_loc, cat_tup, wLen_scr, wLen_loc, wLen_str, wSub_scr, wSub_loc, wSub_str, aug_add, aug_sub, tru_lst, tru_tup, tru_non, ty_scr_list, sg_p0, sg_pl, ss_p0, ss_pl, ob_set0, ob_set1, ob_set2, ob_set3, ob_g0, ob_g1, ob_g2, ob_g3, List.append_assoc, List.length_append, List.nil_append, Nat.add_zero, Nat.add_assoc, Int.reduceNeg, wipeA, orc_run, orc_glob, orc_init, orc_isa, orc_gdct, W_isc, W_isE, W_isEt, orc_xk, m_upper, m_partition, m_split, m_endswith, m_find, mOk_upper, mOk_partition, mOk_split, mOk_endswith, mOk_find, b_intB, W_glob, W_gget, W_fld, W_mcall, W_make, W_make0, W_dsp, Ss_setFld, subO_l, subO_d, subO_k, lenO_l, lenO_d, listO_l, listO_d, putO_l, keyV_int, keyV_str, wIn_str, wNotin_str, mapSome, at_0, at_1, at_2, at_3, at_4, at_5, ix_1_0, ix_2_0, ix_2_1, ix_3_0, ix_3_1, ix_3_2, ix_4_0, ix_4_1, ix_4_2, ix_4_3, va_s0, va_s1, va_s2, va_s3])
theorem enumV_get' {x : Va} : ∀ {xs : List Va} {n i : Nat}, (enumV n xs)[i]? = some x → ∃ y, xs[i]? = some y ∧ x = .tup [.int ((n + i : Nat) : Int), y]
  | [], n, i, h => by cases h
  | a :: xs, n, 0, h => by cases h; exact ⟨a, rfl, rfl⟩
  | a :: xs, n, i + 1, h => by
    obtain ⟨y, h1, h2⟩ := enumV_get' (xs := xs) (n := n + 1) (i := i) h
    exact ⟨y, h1, by rw [h2, show n + 1 + i = n + (i + 1) by omega]⟩
theorem cut_mem {ns : List Int} {lo hi : Option Int} {z : Int} (h : z ∈ cutA ns lo hi) : z ∈ ns := by
  unfold cutA at h
  exact List.mem_of_mem_drop (List.mem_of_mem_take h)
theorem law_ok (ns : List Int) (hl : ns.length ≤ 63) (hb : ∀ z ∈ ns, Builtin.Int.intBits z ≤ 1048576) : call Hd.T 8 "law" [.scr ns] [] (fun v _ => v = .bl true) (fun _ _ => False) := by
  refine call_def (d := Hd.f_law) rfl rfl ?_
  unfold Hd.f_law
  walk_at "am"
  refine cell_ok nmT ns hb _ 0 (by omega) fun c0 hc0 => ?_
  walk_at "am"
  refine ⟨c30, by decide, ?_⟩
  refine cell_ok nmT ns hb _ 1 (by omega) fun c1 hc1 => ?_
  walk_at "am"
  refine ⟨c30, by decide, ?_⟩
  refine seq_cut (call_mono _ _) (fun Γ S' => S' = [] ∧ ∃ a b : Nat, a < 10 ^ 30 ∧ b < 10 ^ 30 ∧ 1 ≤ b ∧ Γ = [some (.scr ns), some (.int (a : Nat)), some (.int (b : Nat)), none, none, none, none, none, none, none, none]) ?_ ?_
  · have f1 := fm c0 (10 ^ 30) (by decide)
    have f2 := fm c1 (10 ^ 30 - 1) (by decide)
    walk_at "am"
    refine cell_ok nmT ns hb _ 1 (by omega) fun c2 hc2 => ?_
    walk_at "am"
    split
    · refine cell_ok nmT ns hb _ 1 (by omega) fun c3 hc3 => ?_
      have f3 := fm ((c0.fmod (10 ^ 30))) 40 (by decide)
      have f4 := fm (c3.fdiv 4) 12 (by decide)
      obtain ⟨a, ha⟩ := Int.eq_ofNat_of_zero_le f3.1
      obtain ⟨b, hb⟩ := Int.eq_ofNat_of_zero_le f4.1
      walk_at "am"
      refine ⟨cdv 4 (by decide) (by decide), a, b + 1, by omega, by omega, by omega, ?_⟩
      rw [ha, hb, show (1 : Int) + (b : Nat) = ((b + 1 : Nat) : Int) by omega]
    · obtain ⟨a, ha⟩ := Int.eq_ofNat_of_zero_le f1.1
      obtain ⟨b, hb⟩ := Int.eq_ofNat_of_zero_le f2.1
      refine ⟨a, b + 1, by omega, by omega, by omega, ?_⟩
      rw [ha, hb, show (1 : Int) + (b : Nat) = ((b + 1 : Nat) : Int) by omega]
  rintro Γ S' ⟨rfl, a, b, ha, hbb, b1, rfl⟩
  walk_at "am"
  refine lowest_ok _ a b b1 hbb ?_
  walk_at "am"
  have gp : ∀ x : Nat, 1 ≤ Nat.gcd x b := fun x => Nat.gcd_pos_of_pos_right x b1
  have hb' : ∀ x : Nat, b / Nat.gcd x b < 10 ^ 30 := fun x => Nat.lt_of_le_of_lt (Nat.div_le_self _ _) hbb
  have hb1 : ∀ x : Nat, 1 ≤ b / Nat.gcd x b := fun x => Nat.div_pos (Nat.gcd_le_right x b1) (gp x)
  have ha' : a / Nat.gcd a b < 10 ^ 30 := Nat.lt_of_le_of_lt (Nat.div_le_self _ _) ha
  have h30 : (10 : Nat) ^ 30 ≤ 10 ^ 300 := by decide +kernel
  refine lshare_ok _ (Nat.lt_of_lt_of_le ha' h30) (hb' a) ?_
  refine show_fraction_ok _ (Nat.lt_of_lt_of_le ha' h30) (hb' a) ?_
  walk_at "am"
  refine show_fraction_ok _ (Nat.lt_of_lt_of_le ha' h30) (hb' a) ?_
  walk_at "am"
  refine read_fraction_ok _ ⟨((a / Nat.gcd a b : Nat) : Int), b / Nat.gcd a b, by have := hb1 a; omega, Nat.coprime_div_gcd_div_gcd (gp a)⟩ rfl rfl ha' (hb' a) ?_
  refine alike_ok _ (allC (it_n _) (all1 (it_n _))) (by simp) ?_
  walk_at "am"
  have c64 : L2.CPow 10 64 := ⟨by decide, by decide, by decide⟩
  have la : ((a : Nat) : Int).natAbs.log2 < 200 := by
    by_cases z : a = 0
    · subst z; decide
    · rw [Int.natAbs_natCast]; exact (Nat.log2_lt z).mpr (Nat.lt_trans ha (by decide))
  have l64 : ((10 : Int) ^ 64).natAbs.log2 < 300 := by decide +kernel
  have lm : ∀ (x y : Int) (n m : Nat), x.natAbs.log2 < n → y.natAbs.log2 < m → (x * y).natAbs.log2 < n + m := fun x y n m h1 h2 => by
    rw [Int.natAbs_mul]
    by_cases z : x.natAbs * y.natAbs = 0
    · rw [z]
      have : Nat.log2 0 = 0 := by decide
      omega
    · refine (Nat.log2_lt z).mpr ?_
      rw [Nat.pow_add]
      have hx : x.natAbs ≠ 0 := fun e => z (by rw [e, Nat.zero_mul])
      have hy : y.natAbs ≠ 0 := fun e => z (by rw [e, Nat.mul_zero])
      exact Nat.mul_lt_mul_of_lt_of_lt ((Nat.log2_lt hx).mp h1) ((Nat.log2_lt hy).mp h2)
  have l1 := lm _ _ _ _ la l64
  have l2 := lm _ _ _ _ l1 l64
  have eg : ((a : Nat) : Int) * 10 ^ 64 * 10 ^ 64 * 10 ^ 64 + 1 = ((a * 10 ^ 64 * 10 ^ 64 * 10 ^ 64 + 1 : Nat) : Int) := by
    have e64 : ((10 ^ 64 : Nat) : Int) = (10 : Int) ^ 64 := by decide +kernel
    rw [Int.natCast_add, Int.natCast_mul, Int.natCast_mul, Int.natCast_mul, e64]; rfl
  have hg : a * 10 ^ 64 * 10 ^ 64 * 10 ^ 64 + 1 < 10 ^ 300 := by
    have : a * 10 ^ 64 * 10 ^ 64 * 10 ^ 64 < 10 ^ 30 * 10 ^ 64 * 10 ^ 64 * 10 ^ 64 := by omega
    exact Nat.lt_of_le_of_lt (Nat.succ_le_of_lt this) (by decide +kernel)
  refine ⟨c64, by unfold CMulA; omega, c64, by unfold CMulA; omega, c64, by unfold CMulA; omega, ?_⟩
  rw [eg]
  generalize a * 10 ^ 64 * 10 ^ 64 * 10 ^ 64 + 1 = g at hg ⊢
  refine lowest_ok _ g b b1 hbb ?_
  walk_at "am"
  have hgg : g / Nat.gcd g b < 10 ^ 300 := Nat.lt_of_le_of_lt (Nat.div_le_self _ _) hg
  have hg' := hb' g
  have hg1 := hb1 g
  generalize g / Nat.gcd g b = x at hgg ⊢
  generalize b / Nat.gcd g b = y at hg' hg1 ⊢
  refine lshare_ok _ hgg hg' ?_
  refine show_fraction_ok _ hgg hg' ?_
  walk_at "am"
  refine show_value_ok _ (.num x y) ⟨hgg, hg'⟩ ?_
  rw [show (Vw.num x y).tx = shT x y from rfl]
  walk_at "am"
  refine show_value_ok _ (.part x y) ⟨hgg, hg'⟩ ?_
  rw [show (Vw.part x y).tx = shT x y ++ blk ++ Str.ofString "part" from rfl]
  walk_at "am"
  have lxy := shT_300 hgg hg'
  have l5 : (Str.ofString " part").length = 5 := by decide +kernel
  have epart : shT x y ++ blk ++ Str.ofString "part" = shT x y ++ Str.ofString " part" := by
    rw [app3]; exact congrArg (shT x y ++ ·) (by decide +kernel)
  refine ⟨by omega, ?_⟩
  rw [if_pos epart]
  refine seq_cut (call_mono _ _) (fun Γ S' => ∃ r, Γ = some (.scr ns) :: r) ?_ ?_
  · walk_at "am"
    refine for_ix (call_mono _ _) (fun i Γ S' => S' = [.lst ((cutA ns (some 2) (some 22)).map Va.int)] ∧ ∃ a1 a2 a3 a4 a5 a6 a7 a8 a9 a10, Γ = [some (.scr ns), a1, a2, a3, a4, a5, a6, a7, a8, a9, a10]) ⟨rfl, _, _, _, _, _, _, _, _, _, _, rfl⟩ ?_ ?_
    · rintro i x Γ S' hx ⟨rfl, a1, a2, a3, a4, a5, a6, a7, a8, a9, a10, rfl⟩
      obtain ⟨y, hy, rfl⟩ := enumV_get' hx
      obtain ⟨c, hcz, rfl⟩ := Option.map_eq_some_iff.mp (by rw [List.getElem?_map] at hy; exact hy)
      have hcm := cut_mem (List.mem_of_getElem? hcz)
      have hi : i < 63 := by
        have h1 := (List.getElem?_eq_some_iff.mp hcz).1
        have h2 : (cutA ns (some 2) (some 22)).length ≤ ns.length := by unfold cutA; rw [List.length_take, List.length_drop]; omega
        omega
      have hcb : Cb c := bits_lg (hb _ hcm)
      refine ⟨_, rfl, ?_⟩
      walk_at "am"
      refine lprops_ok _ ?_
      walk_at "am"
      refine mix_ok nmT _ c _ hcb (by omega) fun m m0 m1 => ?_
      walk_at "am"
      have k13 := fm m 13 (by decide)
      obtain ⟨j, hj⟩ := Int.eq_ofNat_of_zero_le k13.1
      have hlt : j < prL.length := by show j < 13; omega
      rw [hj]
      refine ⟨.str prL[j], L2.atI_nat (by rw [List.getElem?_map, List.getElem?_eq_getElem hlt]; rfl), ?_⟩
      have hq := List.getElem_mem hlt
      generalize prL[j] = q at hq ⊢
      refine cell_ok nmT ns hb _ _ (by omega) fun co hco => ?_
      refine noted_ok _ hq c co _ hcb hco (by omega) fun v hv => ?_
      walk_at "am"
      refine lvtext_ok _ v hv.ok ?_
      walk_at "am"
      refine show_value_ok _ v hv.ok ?_
      walk_at "am"
      obtain ⟨xs, ex, h1, h2⟩ := gd_it hv
      refine read_ok _ hv ?_
      rw [ex]
      refine alike_ok _ h1 h2 ?_
      walk_at "am"
      exact ⟨_, _, _, _, _, _, _, _, _, _, rfl⟩
    · rintro Γ S' ⟨_, a1, a2, a3, a4, a5, a6, a7, a8, a9, a10, rfl⟩
      exact ⟨_, rfl⟩
  rintro Γ S' ⟨r, rfl⟩
  walk_at "am"
  exact fin_val (S := []) (N := S') rfl rfl
end NB
end

section
set_option linter.all false
set_option maxRecDepth 100000
set_option maxHeartbeats 4000000
open PySem
open Hd (f_law)
namespace LawProof
open PySem AM
theorem law_holds (ns : List Int) (hl : ns.length ≤ 63) (hb : ∀ z ∈ ns, Builtin.Int.intBits z ≤ 1048576) : call Hd.T 8 "law" [.scr ns] [] (fun v _ => v = .bl true) (fun _ _ => False) := NB.law_ok ns hl hb
end LawProof
namespace Hd
open PySem PySem.Spec PyProof.Rows L2 AM
theorem c_f_is_name : ckF xs fs f_is_name (top 6) [] [] = true := by decide +kernel
theorem c_f_divisor : ckF xs fs f_divisor (top 9) [] [] = true := by decide +kernel
theorem c_f_fraction : ckF xs fs f_fraction (top 10) [] [] = true := by decide +kernel
theorem c_f_read_whole : ckF xs fs f_read_whole (top 13) [] [] = true := by decide +kernel
theorem c_f_read_share : ckF xs fs f_read_share (top 14) [] [] = true := by decide +kernel
theorem c_f_show_share : ckF xs fs f_show_share (top 15) [] [] = true := by decide +kernel
theorem c_f_show_fraction : ckF xs fs f_show_fraction (top 16) [] [] = true := by decide +kernel
theorem c_f_read_fraction : ckF xs fs f_read_fraction (top 17) [] [] = true := by decide +kernel
theorem c_f_show_value : ckF xs fs f_show_value (top 18) [] [] = true := by decide +kernel
theorem c_f_read_value : ckF xs fs f_read_value (top 19) [] [] = true := by decide +kernel
theorem c_f_l_cell : ckF xs fs f_l_cell (top 21) [] [] = true := by decide +kernel
theorem c_f_l_mix : ckF xs fs f_l_mix (top 22) [] [] = true := by decide +kernel
theorem c_f_l_name : ckF xs fs f_l_name (top 23) [] [] = true := by decide +kernel
theorem c_f_l_whole : ckF xs fs f_l_whole (top 24) [] [] = true := by decide +kernel
theorem c_f_l_props : ckF xs fs f_l_props (top 25) [] [] = true := by decide +kernel
theorem c_f_l_share_text : ckF xs fs f_l_share_text (top 26) [] [] = true := by decide +kernel
theorem c_f_l_value_text : ckF xs fs f_l_value_text (top 27) [] [] = true := by decide +kernel
theorem c_f_l_noted : ckF xs fs f_l_noted (top 28) [] [] = true := by decide +kernel
theorem c_f_l_divisor : ckF xs fs f_l_divisor (top 29) [] [] = true := by decide +kernel
theorem c_f_l_lowest : ckF xs fs f_l_lowest (top 30) [] [] = true := by decide +kernel
theorem c_f_l_alike : ckF xs fs f_l_alike (top 31) [] [] = true := by decide +kernel
theorem c_f_law : ckF xs fs f_law (top 32) [] [] = true := by decide +kernel
theorem exOk {K : PySem.W.Frag} (h : ex K = true) (i : Nat) {b : Bool} (hb : ([He.tupB K "NUMBERS" [.str "size", .str "wide", .str "least", .str "most", .str "grow", .str "shrink", .str "gap", .str "pad", .str "tall"]] : List Bool)[i]? = some b := by rfl) : b = true := List.all_eq_true.mp h b (List.mem_of_getElem? hb)
theorem D_f_is_name {K : PySem.W.Frag} (c : He.SaysD fa fn K) : ∃ fd, DefOk K T fs xs (lamCs lamT K) "is_name" (He.fAd K ("is_name", none)) f_is_name fd :=
  have ⟨fd, F⟩ := c.def_ 0 (d := d_f_is_name) rfl
  ⟨fd, top 6, _, _, [], [], [], rfl, F, FunD.bindsN F (fun _ _ _ _ _ _ us hl => match us, hl with | [_], _ => rfl), c_f_is_name, (fun _ h => by cases h), fnil⟩
theorem D_f_divisor {K : PySem.W.Frag} (c : He.SaysD fa fn K) : ∃ fd, DefOk K T fs xs (lamCs lamT K) "divisor" (He.fAd K ("divisor", none)) f_divisor fd :=
  have ⟨fd, F⟩ := c.def_ 1 (d := d_f_divisor) rfl
  ⟨fd, top 9, _, _, [], [], [], rfl, F, FunD.bindsN F (fun _ _ _ _ _ _ us hl => match us, hl with | [_, _], _ => rfl), c_f_divisor, (fun _ h => by cases h), fnil⟩
theorem D_f_fraction {K : PySem.W.Frag} (c : He.SaysD fa fn K) : ∃ fd, DefOk K T fs xs (lamCs lamT K) "fraction" (He.fAd K ("fraction", none)) f_fraction fd :=
  have ⟨fd, F⟩ := c.def_ 2 (d := d_f_fraction) rfl
  ⟨fd, top 10, _, _, [], [], [], rfl, F, FunD.bindsN F (fun _ _ _ _ _ _ us hl => match us, hl with | [_, _], _ => rfl), c_f_fraction, (fun _ h => by cases h), fnil⟩
theorem D_f_read_whole {K : PySem.W.Frag} (c : He.SaysD fa fn K) : ∃ fd, DefOk K T fs xs (lamCs lamT K) "read_whole" (He.fAd K ("read_whole", none)) f_read_whole fd :=
  have ⟨fd, F⟩ := c.def_ 3 (d := d_f_read_whole) rfl
  ⟨fd, top 13, _, _, [], [], [], rfl, F, FunD.bindsN F (fun _ _ _ _ _ _ us hl => match us, hl with | [_], _ => rfl), c_f_read_whole, (fun _ h => by cases h), fnil⟩
theorem D_f_read_share {K : PySem.W.Frag} (c : He.SaysD fa fn K) : ∃ fd, DefOk K T fs xs (lamCs lamT K) "read_share" (He.fAd K ("read_share", none)) f_read_share fd :=
  have ⟨fd, F⟩ := c.def_ 4 (d := d_f_read_share) rfl
  ⟨fd, top 14, _, _, [], [], [], rfl, F, FunD.bindsN F (fun _ _ _ _ _ _ us hl => match us, hl with | [_], _ => rfl), c_f_read_share, (fun _ h => by cases h), fnil⟩
theorem D_f_show_share {K : PySem.W.Frag} (c : He.SaysD fa fn K) : ∃ fd, DefOk K T fs xs (lamCs lamT K) "show_share" (He.fAd K ("show_share", none)) f_show_share fd :=
  have ⟨fd, F⟩ := c.def_ 5 (d := d_f_show_share) rfl
  ⟨fd, top 15, _, _, [], [], [], rfl, F, FunD.bindsN F (fun _ _ _ _ _ _ us hl => match us, hl with | [_, _], _ => rfl), c_f_show_share, (fun _ h => by cases h), fnil⟩
theorem D_f_show_fraction {K : PySem.W.Frag} (c : He.SaysD fa fn K) : ∃ fd, DefOk K T fs xs (lamCs lamT K) "show_fraction" (He.fAd K ("show_fraction", none)) f_show_fraction fd :=
  have ⟨fd, F⟩ := c.def_ 6 (d := d_f_show_fraction) rfl
  ⟨fd, top 16, _, _, [], [], [], rfl, F, FunD.bindsN F (fun _ _ _ _ _ _ us hl => match us, hl with | [_], _ => rfl), c_f_show_fraction, (fun _ h => by cases h), fnil⟩
theorem D_f_read_fraction {K : PySem.W.Frag} (c : He.SaysD fa fn K) : ∃ fd, DefOk K T fs xs (lamCs lamT K) "read_fraction" (He.fAd K ("read_fraction", none)) f_read_fraction fd :=
  have ⟨fd, F⟩ := c.def_ 7 (d := d_f_read_fraction) rfl
  ⟨fd, top 17, _, _, [], [], [], rfl, F, FunD.bindsN F (fun _ _ _ _ _ _ us hl => match us, hl with | [_], _ => rfl), c_f_read_fraction, (fun _ h => by cases h), fnil⟩
theorem D_f_show_value {K : PySem.W.Frag} (c : He.SaysD fa fn K) : ∃ fd, DefOk K T fs xs (lamCs lamT K) "show_value" (He.fAd K ("show_value", none)) f_show_value fd :=
  have ⟨fd, F⟩ := c.def_ 8 (d := d_f_show_value) rfl
  ⟨fd, top 18, _, _, [], [], [], rfl, F, FunD.bindsN F (fun _ _ _ _ _ _ us hl => match us, hl with | [_], _ => rfl), c_f_show_value, (fun _ h => by cases h), fnil⟩
theorem D_f_read_value {K : PySem.W.Frag} (c : He.SaysD fa fn K) : ∃ fd, DefOk K T fs xs (lamCs lamT K) "read_value" (He.fAd K ("read_value", none)) f_read_value fd :=
  have ⟨fd, F⟩ := c.def_ 9 (d := d_f_read_value) rfl
  ⟨fd, top 19, _, _, [], [], [], rfl, F, FunD.bindsN F (fun _ _ _ _ _ _ us hl => match us, hl with | [_], _ => rfl), c_f_read_value, (fun _ h => by cases h), fnil⟩
theorem D_f_l_cell {K : PySem.W.Frag} (c : He.SaysD fa fn K) : ∃ fd, DefOk K T fs xs (lamCs lamT K) "_law_cell" (He.fAd K ("_law_cell", none)) f_l_cell fd :=
  have ⟨fd, F⟩ := c.def_ 10 (d := d_f_l_cell) rfl
  ⟨fd, top 21, _, _, [], [], [], rfl, F, FunD.bindsN F (fun _ _ _ _ _ _ us hl => match us, hl with | [_, _], _ => rfl), c_f_l_cell, (fun _ h => by cases h), fnil⟩
theorem D_f_l_mix {K : PySem.W.Frag} (c : He.SaysD fa fn K) : ∃ fd, DefOk K T fs xs (lamCs lamT K) "_law_mix" (He.fAd K ("_law_mix", none)) f_l_mix fd :=
  have ⟨fd, F⟩ := c.def_ 11 (d := d_f_l_mix) rfl
  ⟨fd, top 22, _, _, [], [], [], rfl, F, FunD.bindsN F (fun _ _ _ _ _ _ us hl => match us, hl with | [_, _], _ => rfl), c_f_l_mix, (fun _ h => by cases h), fnil⟩
theorem D_f_l_name {K : PySem.W.Frag} (c : He.SaysD fa fn K) : ∃ fd, DefOk K T fs xs (lamCs lamT K) "_law_name" (He.fAd K ("_law_name", none)) f_l_name fd :=
  have ⟨fd, F⟩ := c.def_ 12 (d := d_f_l_name) rfl
  ⟨fd, top 23, _, _, [], [], [], rfl, F, FunD.bindsN F (fun _ _ _ _ _ _ us hl => match us, hl with | [_, _], _ => rfl), c_f_l_name, (fun _ h => by cases h), fnil⟩
theorem D_f_l_whole {K : PySem.W.Frag} (c : He.SaysD fa fn K) : ∃ fd, DefOk K T fs xs (lamCs lamT K) "_law_whole" (He.fAd K ("_law_whole", none)) f_l_whole fd :=
  have ⟨fd, F⟩ := c.def_ 13 (d := d_f_l_whole) rfl
  ⟨fd, top 24, _, _, [], [], [], rfl, F, FunD.bindsN F (fun _ _ _ _ _ _ us hl => match us, hl with | [_], _ => rfl), c_f_l_whole, (fun _ h => by cases h), fnil⟩
theorem D_f_l_props {K : PySem.W.Frag} (c : He.SaysD fa fn K) : ∃ fd, DefOk K T fs xs (lamCs lamT K) "_law_props" (He.fAd K ("_law_props", none)) f_l_props fd :=
  have ⟨fd, F⟩ := c.def_ 14 (d := d_f_l_props) rfl
  ⟨fd, top 25, _, _, [], [], [], rfl, F, FunD.bindsN F (fun _ _ _ _ _ _ us hl => match us, hl with | [], _ => rfl), c_f_l_props, (fun _ h => by cases h), fnil⟩
theorem D_f_l_share_text {K : PySem.W.Frag} (c : He.SaysD fa fn K) : ∃ fd, DefOk K T fs xs (lamCs lamT K) "_law_share_text" (He.fAd K ("_law_share_text", none)) f_l_share_text fd :=
  have ⟨fd, F⟩ := c.def_ 15 (d := d_f_l_share_text) rfl
  ⟨fd, top 26, _, _, [], [], [], rfl, F, FunD.bindsN F (fun _ _ _ _ _ _ us hl => match us, hl with | [_, _], _ => rfl), c_f_l_share_text, (fun _ h => by cases h), fnil⟩
theorem D_f_l_value_text {K : PySem.W.Frag} (c : He.SaysD fa fn K) : ∃ fd, DefOk K T fs xs (lamCs lamT K) "_law_value_text" (He.fAd K ("_law_value_text", none)) f_l_value_text fd :=
  have ⟨fd, F⟩ := c.def_ 16 (d := d_f_l_value_text) rfl
  ⟨fd, top 27, _, _, [], [], [], rfl, F, FunD.bindsN F (fun _ _ _ _ _ _ us hl => match us, hl with | [_], _ => rfl), c_f_l_value_text, (fun _ h => by cases h), fnil⟩
theorem D_f_l_noted {K : PySem.W.Frag} (c : He.SaysD fa fn K) : ∃ fd, DefOk K T fs xs (lamCs lamT K) "_law_noted" (He.fAd K ("_law_noted", none)) f_l_noted fd :=
  have ⟨fd, F⟩ := c.def_ 17 (d := d_f_l_noted) rfl
  ⟨fd, top 28, _, _, [], [], [], rfl, F, FunD.bindsN F (fun _ _ _ _ _ _ us hl => match us, hl with | [_, _, _, _], _ => rfl), c_f_l_noted, (fun _ h => by cases h), fnil⟩
theorem D_f_l_divisor {K : PySem.W.Frag} (c : He.SaysD fa fn K) : ∃ fd, DefOk K T fs xs (lamCs lamT K) "_law_divisor" (He.fAd K ("_law_divisor", none)) f_l_divisor fd :=
  have ⟨fd, F⟩ := c.def_ 18 (d := d_f_l_divisor) rfl
  ⟨fd, top 29, _, _, [], [], [], rfl, F, FunD.bindsN F (fun _ _ _ _ _ _ us hl => match us, hl with | [_, _], _ => rfl), c_f_l_divisor, (fun _ h => by cases h), fnil⟩
theorem D_f_l_lowest {K : PySem.W.Frag} (c : He.SaysD fa fn K) : ∃ fd, DefOk K T fs xs (lamCs lamT K) "_law_lowest" (He.fAd K ("_law_lowest", none)) f_l_lowest fd :=
  have ⟨fd, F⟩ := c.def_ 19 (d := d_f_l_lowest) rfl
  ⟨fd, top 30, _, _, [], [], [], rfl, F, FunD.bindsN F (fun _ _ _ _ _ _ us hl => match us, hl with | [_, _], _ => rfl), c_f_l_lowest, (fun _ h => by cases h), fnil⟩
theorem D_f_l_alike {K : PySem.W.Frag} (c : He.SaysD fa fn K) : ∃ fd, DefOk K T fs xs (lamCs lamT K) "_law_alike" (He.fAd K ("_law_alike", none)) f_l_alike fd :=
  have ⟨fd, F⟩ := c.def_ 20 (d := d_f_l_alike) rfl
  ⟨fd, top 31, _, _, [], [], [], rfl, F, FunD.bindsN F (fun _ _ _ _ _ _ us hl => match us, hl with | [_, _], _ => rfl), c_f_l_alike, (fun _ h => by cases h), fnil⟩
theorem D_f_law {K : PySem.W.Frag} (c : He.SaysD fa fn K) : ∃ fd, DefOk K T fs xs (lamCs lamT K) "law" (He.fAd K ("law", none)) f_law fd :=
  have ⟨fd, F⟩ := c.def_ 21 (d := d_f_law) rfl
  ⟨fd, top 32, _, _, [], [], [], rfl, F, FunD.bindsN F (fun _ _ _ _ _ _ us hl => match us, hl with | [_], _ => rfl), c_f_law, (fun _ h => by cases h), fnil⟩
theorem facts {w : World} {K : PySem.W.Frag} {h : Heap} {mg : Str → Option Value} (X : K.In h) (G : h.Ns mainGlobals mg) (c : He.SaysD fa fn K) (hx : ex K = true) (ct : He.SaysT fa fn tsx w K) : Facts w K mg (He.ga K) T fs xs (lamCs lamT K) where
  fn := fcons (have ⟨fd, D⟩ := D_f_is_name c; ⟨_, _, fd, He.glo_ok X G (c.fact 0 (f := .glo "is_name") rfl), D⟩) (fcons (have ⟨fd, D⟩ := D_f_divisor c; ⟨_, _, fd, He.glo_ok X G (c.fact 1 (f := .glo "divisor") rfl), D⟩) (fcons (have ⟨fd, D⟩ := D_f_fraction c; ⟨_, _, fd, He.glo_ok X G (c.fact 2 (f := .glo "fraction") rfl), D⟩) (fcons (have ⟨fd, D⟩ := D_f_read_whole c; ⟨_, _, fd, He.glo_ok X G (c.fact 3 (f := .glo "read_whole") rfl), D⟩) (fcons (have ⟨fd, D⟩ := D_f_read_share c; ⟨_, _, fd, He.glo_ok X G (c.fact 4 (f := .glo "read_share") rfl), D⟩) (fcons (have ⟨fd, D⟩ := D_f_show_share c; ⟨_, _, fd, He.glo_ok X G (c.fact 5 (f := .glo "show_share") rfl), D⟩) (fcons (have ⟨fd, D⟩ := D_f_show_fraction c; ⟨_, _, fd, He.glo_ok X G (c.fact 6 (f := .glo "show_fraction") rfl), D⟩) (fcons (have ⟨fd, D⟩ := D_f_read_fraction c; ⟨_, _, fd, He.glo_ok X G (c.fact 7 (f := .glo "read_fraction") rfl), D⟩) (fcons (have ⟨fd, D⟩ := D_f_show_value c; ⟨_, _, fd, He.glo_ok X G (c.fact 8 (f := .glo "show_value") rfl), D⟩) (fcons (have ⟨fd, D⟩ := D_f_read_value c; ⟨_, _, fd, He.glo_ok X G (c.fact 9 (f := .glo "read_value") rfl), D⟩) (fcons (have ⟨fd, D⟩ := D_f_l_cell c; ⟨_, _, fd, He.glo_ok X G (c.fact 10 (f := .glo "_law_cell") rfl), D⟩) (fcons (have ⟨fd, D⟩ := D_f_l_mix c; ⟨_, _, fd, He.glo_ok X G (c.fact 11 (f := .glo "_law_mix") rfl), D⟩) (fcons (have ⟨fd, D⟩ := D_f_l_name c; ⟨_, _, fd, He.glo_ok X G (c.fact 12 (f := .glo "_law_name") rfl), D⟩) (fcons (have ⟨fd, D⟩ := D_f_l_whole c; ⟨_, _, fd, He.glo_ok X G (c.fact 13 (f := .glo "_law_whole") rfl), D⟩) (fcons (have ⟨fd, D⟩ := D_f_l_props c; ⟨_, _, fd, He.glo_ok X G (c.fact 14 (f := .glo "_law_props") rfl), D⟩) (fcons (have ⟨fd, D⟩ := D_f_l_share_text c; ⟨_, _, fd, He.glo_ok X G (c.fact 15 (f := .glo "_law_share_text") rfl), D⟩) (fcons (have ⟨fd, D⟩ := D_f_l_value_text c; ⟨_, _, fd, He.glo_ok X G (c.fact 16 (f := .glo "_law_value_text") rfl), D⟩) (fcons (have ⟨fd, D⟩ := D_f_l_noted c; ⟨_, _, fd, He.glo_ok X G (c.fact 17 (f := .glo "_law_noted") rfl), D⟩) (fcons (have ⟨fd, D⟩ := D_f_l_divisor c; ⟨_, _, fd, He.glo_ok X G (c.fact 18 (f := .glo "_law_divisor") rfl), D⟩) (fcons (have ⟨fd, D⟩ := D_f_l_lowest c; ⟨_, _, fd, He.glo_ok X G (c.fact 19 (f := .glo "_law_lowest") rfl), D⟩) (fcons (have ⟨fd, D⟩ := D_f_l_alike c; ⟨_, _, fd, He.glo_ok X G (c.fact 20 (f := .glo "_law_alike") rfl), D⟩) (fcons (have ⟨fd, D⟩ := D_f_law c; ⟨_, _, fd, He.glo_ok X G (c.fact 21 (f := .glo "law") rfl), D⟩) (fnil))))))))))))))))))))))
  blt := fcons (He.free_ok X G (c.fact 22 (f := .free "len") rfl)) (fcons (He.free_ok X G (c.fact 23 (f := .free "abs") rfl)) (fcons (He.free_ok X G (c.fact 24 (f := .free "isinstance") rfl)) (fcons (He.free_ok X G (c.fact 25 (f := .free "int") rfl)) (fcons (He.free_ok X G (c.fact 26 (f := .free "bool") rfl)) (fcons (He.free_ok X G (c.fact 27 (f := .free "str") rfl)) (fcons (He.free_ok X G (c.fact 28 (f := .free "tuple") rfl)) (fcons (He.free_ok X G (c.fact 29 (f := .free "list") rfl)) (fcons (He.free_ok X G (c.fact 30 (f := .free "dict") rfl)) (fcons (He.free_ok X G (c.fact 31 (f := .free "range") rfl)) (fcons (He.free_ok X G (c.fact 32 (f := .free "max") rfl)) (fcons (He.free_ok X G (c.fact 33 (f := .free "min") rfl)) (fcons (He.free_ok X G (c.fact 34 (f := .free "sum") rfl)) (fcons (He.free_ok X G (c.fact 35 (f := .free "sorted") rfl)) (fcons (He.free_ok X G (c.fact 36 (f := .free "reversed") rfl)) (fcons (He.free_ok X G (c.fact 37 (f := .free "enumerate") rfl)) (fcons (He.free_ok X G (c.fact 38 (f := .free "zip") rfl)) (fcons (He.free_ok X G (c.fact 39 (f := .free "all") rfl)) (fcons (He.free_ok X G (c.fact 40 (f := .free "any") rfl)) (fcons (He.free_ok X G (c.fact 41 (f := .free "ord") rfl)) (fnil))))))))))))))))))))
  exc := fcons (have ⟨e1, e2, e3, e4⟩ := He.exc_ok (c.fact 43 (f := .exc "HouseError") rfl); ⟨He.glo_ok X G (c.fact 42 (f := .glo "HouseError") rfl), e1, e2, e3, e4⟩) (fcons (have ⟨e1, e2, e3, e4⟩ := He.exc_ok (c.fact 45 (f := .exc "NoFraction") rfl); ⟨He.glo_ok X G (c.fact 44 (f := .glo "NoFraction") rfl), e1, e2, e3, e4⟩) (fcons (have ⟨e1, e2, e3, e4⟩ := He.exc_ok (c.fact 47 (f := .exc "NoText") rfl); ⟨He.glo_ok X G (c.fact 46 (f := .glo "NoText") rfl), e1, e2, e3, e4⟩) (fnil)))
  glo := fcons (have ⟨u, e⟩ := He.str_ok X G (c.fact 48 (f := .str "LETTERS" "abcdefghijklmnopqrstuvwxyz") rfl); ⟨_, .str "abcdefghijklmnopqrstuvwxyz", e, ⟨u, rfl⟩, fun _ _ => rfl⟩) (fcons (⟨_, .ref (He.ga K "NUMBERS"), He.glo_ok X G (c.fact 49 (f := .glo "NUMBERS") rfl), rfl, fun F β => ⟨_, _, rfl, He.tupB_ok (exOk hx 0) F, ⟨_, _, rfl, rfl, ⟨_, _, rfl, rfl, ⟨_, _, rfl, rfl, ⟨_, _, rfl, rfl, ⟨_, _, rfl, rfl, ⟨_, _, rfl, rfl, ⟨_, _, rfl, rfl, ⟨_, _, rfl, rfl, ⟨_, _, rfl, rfl, rfl⟩⟩⟩⟩⟩⟩⟩⟩⟩⟩⟩) (fcons (have ⟨u, e⟩ := He.str_ok X G (c.fact 50 (f := .str "FIGURES" "0123456789") rfl); ⟨_, .str "0123456789", e, ⟨u, rfl⟩, fun _ _ => rfl⟩) (fnil)))
  noat := fnil
  meth := fnil
  init := fnil
  isa := fnil
  gdc := fnil
  xk := fnil
  dfl := fnil
end Hd
open PySem PySem.W PySem.Calls PyProof.Rows
set_option maxHeartbeats 0 in
theorem PySem.Challenge.cw_stylehouse_k47_values_written_holds : PySem.Challenge.rw_stylehouse_k47_values_written.Holds := by
  w_on; o_law
  refine HandSHeadRun.head_any (r := OpenLaw.row PySem.Challenge.rw_stylehouse_k47_values_written) (q := view (OpenLaw.row PySem.Challenge.rw_stylehouse_k47_values_written).prog [32]) (H := Hd.hk) (ob := Hd.ob) (M := 4000) (loose := Hd.loose) (d := HandSHeadRun.topDef (OpenLaw.row PySem.Challenge.rw_stylehouse_k47_values_written).prog 32) (kwd := []) Hd.ob_eq
    (by kernel_rfl) (fun s => by kernel_rfl) Hd.run (by kernel_rfl) (by kernel_rfl) (by kernel_rfl) (by rfl) (by first | assumption | decide +kernel) (by decide +kernel) ⟨rfl, rfl, rfl, rfl, rfl, by decide +kernel⟩ ?hw ?hc
  case hw => w_witness2
  case hc =>
    refine AM.walk_ofEB (l := PySem.Challenge.rw_stylehouse_k47_values_written) (n := 63) (k := 2 * 8) (x := "_law_script") (CX := fun w => L2.CX (PySem.Challenge.rw_stylehouse_k47_values_written).prog w) rfl (by decide) (by kernel_rfl) ⟨rfl, by decide, by decide⟩ ?F ?X
    case X =>
      intro w H s e s' h
      obtain ⟨_, _, _, _, _, _, _, _, _, _, _, _, z⟩ := h
      exact z.elim
    intro w mg fa h Y G hmg0
    obtain ⟨K, KX, c⟩ := Y
    have hmg : mg ("law" : PySem.Str) = some (.ref fa) := by
      have e : (HandSHeadRun.topDef (OpenLaw.row PySem.Challenge.rw_stylehouse_k47_values_written).prog 32).name = ("law" : PySem.Str) := by kernel_rfl
      rw [← e]
      exact hmg0
    have Fx := Hd.facts KX G c.t.d c.more c.t
    obtain ⟨fd, F⟩ := c.t.d.def_ 21 (d := Hd.d_f_law) rfl
    have e := hmg.symm.trans (He.glo_ok KX G (c.t.d.fact 21 (f := .glo "law") rfl))
    cases e
    have b := L2.FunD.bindsA (ps := ["_law_script"]) F fun _ _ _ _ _ _ us hl => match us, hl with | [_], _ => rfl
    refine ⟨K, fd, AM.spI K (He.ga K) (AM.orc Hd.T 8) "law", KX, fun s v => b s [v] rfl, fun H a ns hl hb _ hS => AM.law_ok Fx (by decide +kernel) hS (LawProof.law_holds ns hl hb), fun base KB GB => ?_⟩
    exact AM.fn_ok (P := (PySem.Challenge.rw_stylehouse_k47_values_written).prog) (w := w) (base := base) Fx (fun _ h => by cases h) 8 "law" _ f_law fd ⟨Hd.top 32, _, _, [], [], [], rfl, F, L2.FunD.bindsN F (fun _ _ _ _ _ _ us hl => match us, hl with | [_], _ => rfl), Hd.c_f_law, (fun _ h => by cases h), (fun _ h => by cases h)⟩
end
#print axioms PySem.Challenge.cw_stylehouse_k47_values_written_holds
