import PyProof.Rows.All
import Wide.All
import OpenK.AllK
import Wide.FinOn
import KE.KStateDown
import HandS.ForMost
import HandS.ForExc
import HandS.More
import HandS.Defaults
import HandS.Head0
import HandS.Head1
import HandS.Head2
import HandS.HeadEnd
import HandS.HeadHook1
import HandS.HeadHook2
import HandS.ExcInit
import HandS.ExcField
import HandS.IsInst
import HandS.TupAny
import HandS.Star
import HandS.Walk
import HandS.Conv
import HandS.Wide
import HandS.Zip
import HandS.Property
import KE.GoesEnum
import KE.KRevSl
import PyProof.ReprRoads
import PyProof.EnumMake
import HandS.ClsMeth
import HandS.ExcOwn
import KE.KDictPairs
import KE.SortData
import HandS.Ends
import PySem.Challenge.RW_nestletters_k28_whole_receivers
set_option Elab.async false
set_option linter.all false
set_option autoImplicit false
set_option maxRecDepth 100000
set_option maxHeartbeats 2000000
/-! The text: the linked program's statements by their places. -/
namespace NL
open PySem PySem.Spec PyProof.Rows L2
abbrev PGM : Program := PySem.Challenge.pw_nestletters_k28_whole_receivers
def top (i : Nat) : Stmt := PySem.Challenge.pw_nestletters_k28_whole_receivers.main.body.getD i (.Pass ⟨0, 0, 0, 0⟩)
abbrev sIsInteger : Stmt := top 10
abbrev sIsBetween : Stmt := top 13
abbrev sNeedPrime : Stmt := top 14
abbrev sIsSign : Stmt := top 15
abbrev sAreSigns : Stmt := top 16
abbrev sRestOf : Stmt := top 17
abbrev sValueIn : Stmt := top 18
abbrev sInverseIn : Stmt := top 19
abbrev sTimesRoot : Stmt := top 20
abbrev sThroughIn : Stmt := top 21
abbrev sIsLaying : Stmt := top 26
abbrev sNeedLaying : Stmt := top 27
abbrev sProfileIn : Stmt := top 28
abbrev sNeedsIn : Stmt := top 29
abbrev sPointsAt : Stmt := top 31
abbrev sFitsAt : Stmt := top 32
abbrev sUnfitIn : Stmt := top 33
abbrev sReadIn : Stmt := top 34
abbrev sSuspectsIn : Stmt := top 38
abbrev sUnsound : Stmt := top 6
abbrev sReceiver : Stmt := top 39
abbrev sMixed : Stmt := top 41
abbrev sBegin : Stmt := top 42
abbrev sDraw : Stmt := top 43
abbrev sOf : Stmt := top 44
abbrev sBack : Stmt := top 45
abbrev sValue : Stmt := top 46
abbrev sBetween : Stmt := top 47
abbrev sNeeds : Stmt := top 48
abbrev sStair : Stmt := top 49
abbrev sLetters : Stmt := top 50
abbrev sPrime : Stmt := top 51
abbrev sShares : Stmt := top 52
abbrev sMessage : Stmt := top 53
abbrev sUnfit : Stmt := top 54
abbrev sSuspects : Stmt := top 55
abbrev sReadRight : Stmt := top 56
abbrev sHeard : Stmt := top 57
abbrev sStandsRight : Stmt := top 58
abbrev sAltered : Stmt := top 59
abbrev sDeed : Stmt := top 60
abbrev sOnlyOne : Stmt := top 61
abbrev sHandRight : Stmt := top 62
abbrev sLaw : Stmt := top 63
/-- a def of the text -/
abbrev FnP (K : PySem.W.Frag) (x qual : Str) (st : Stmt) (dv : List V) (f : Addr) (fd : FuncData) : Prop := FunD K x qual (defArgs st) (defBody st) (defScope st) dv [] f fd
/-- the i-th statement of the class Receiver, of the class Unsound -/
def inC (i : Nat) : Stmt := match top 39 with
  | .ClassDef (body := b) .. => b.getD i (.Pass ⟨0, 0, 0, 0⟩)
  | _ => .Pass ⟨0, 0, 0, 0⟩
def inU (i : Nat) : Stmt := match top 6 with
  | .ClassDef (body := b) .. => b.getD i (.Pass ⟨0, 0, 0, 0⟩)
  | _ => .Pass ⟨0, 0, 0, 0⟩
end NL
set_option maxHeartbeats 2000000
/-! What the top leaves, told by a Hook of one's own: the facts by names, the class of the error, two properties. -/
namespace NL
open PySem PySem.Spec PyProof.Rows L2
/-- the property's object; its getter -/
def prAt (K : PySem.W.Frag) (m : Str) : Addr := He.ma K (He.ga K "Receiver") m
def gtAt (K : PySem.W.Frag) (m : Str) : Addr := match PySem.W.recIn K (prAt K m) "property" with
  | some (.ref g :: _) => g
  | _ => 0
def fnAt (K : PySem.W.Frag) (a : Addr) : He.FnW := match K.lookup a with
  | some ⟨_, _, .func z, _⟩ => some (z.name, z.qualname, z.params, z.body, z.scope, z.globals, z.closure, z.builtins)
  | _ => none
def bareB (K : PySem.W.Frag) (a : Addr) (q : Str) : Bool := match K.lookup a with
  | some ⟨_, _, .func z, _⟩ => PySem.W.codeIn K z.code q && He.dflB K z.defaults []
  | _ => false
def prB (K : PySem.W.Frag) (m q : Str) : Bool :=
  He.eqO (PySem.W.findIn K (.ref (He.ga K "Receiver")) m) (some (some (.ref (prAt K m)))) &&
  (He.eqO (PySem.W.specialIn K (.ref (prAt K m)) "__get__") (some (some (.builtin "property.__get__"))) &&
  (decide (PySem.W.takesIn K (.ref (prAt K m)) = some true) &&
  ((match PySem.W.recIn K (prAt K m) "property" with
    | some (.ref _ :: _) => true
    | _ => false) && (bareB K (gtAt K m) q && PySem.W.keepIn K (.ref (gtAt K m))))))
def oeB (K : PySem.W.Frag) (U : Addr) : Bool := match K.lookup U with
  | some ⟨.type t, _, .cls cd, sl⟩ => decide (t = "type") && (cd.hasDict && (!cd.hasDel && (match cd.mro, sl.toList with
    | .ref c :: bm, [_, _, _, _, some (.builtin n), _] => decide (c = U) && (decide (n = "ValueError.__new__") && PySem.HandSPX.refsVE bm)
    | _, _ => false)))
  | _ => false
def unB (K : PySem.W.Frag) (U nb : Addr) : Bool :=
  oeB K U && (He.eqO (PySem.W.findIn K (.ref U) "__setattr__") (some (some (.builtin "object.__setattr__"))) &&
  (decide (PySem.W.subIn K (.ref U) (.type "BaseException") = some true) && (decide (PySem.W.typeIn K (.ref U) = some (.type "type")) && (PySem.W.keepIn K (.ref U) &&
  (He.eqO (PySem.W.findIn K (.ref U) "__init__") (some (some (.ref (He.ma K U "__init__")))) && (decide (PySem.W.typeIn K (.ref (He.ma K U "__init__")) = some (.type "function")) &&
  (He.eqO (PySem.W.findIn K (.ref U) "need") (some none) && (xfB K U && (decide (PySem.W.exmOne K (.ref U) (.ref U) = some true) &&
  (PySem.W.readsIn K nb (.type "type") && (He.eqO (PySem.W.specialIn K (.ref nb) "__getattribute__") (some (some (.builtin "type.__getattribute__"))) &&
  (match PySem.W.findCls K (.ref nb) (.type "type") "__init__" with
    | some (.val (.builtin i)) => decide (i = "ValueError.__init__")
    | _ => false))))))))))))
/-! ### the Hook -/
abbrev AlN : Type := He.AlD × Bool × List He.FnW
/-- one property: its name, its getter's qualified name and statement -/
structure PrD where
  at_ : Str
  qual : Str
  st : Stmt
def PrD.val (d : PrD) : He.FnW := some (d.at_, d.qual, defArgs d.st, .stmts (defBody d.st), defScope d.st, mainGlobals, [], builtinsNs)
def obN (fa : List He.Fa) (fn : List He.DefD) (pr : List PrD) (ex : PySem.W.Frag → Bool) (K : PySem.W.Frag) : AlN := (He.obsD fa fn K, (ex K && pr.all fun d => prB K d.at_ d.qual), pr.map fun d => fnAt K (gtAt K d.at_))
def vaN (fn : List He.DefD) (pr : List PrD) : AlN := (He.valD fn, true, pr.map PrD.val)
def asN (n : Nat) (g : Addr → Option Obj) : List Addr := cStatics :: He.asD g n
def hkN (n : Nat) (fa : List He.Fa) (fn : List He.DefD) (pr : List PrD) (ex : PySem.W.Frag → Bool) : PySem.W.Hook where
  α := AlN
  obs := fun s => obN fa fn pr ex (He.frG s.heap.get? (asN n s.heap.get?))
  val := fun _ => vaN fn pr
  says := fun _ h => ∃ K : PySem.W.Frag, K.In h ∧ obN fa fn pr ex K = vaN fn pr
  of := fun _ _ e => ⟨_, He.frG_in, e⟩
  keeps := fun _ _ _ ⟨K, hK, c⟩ k => ⟨K, PySem.W.Frag.In.keeps hK k, c⟩
def obT (n : Nat) (fa : List He.Fa) (fn : List He.DefD) (pr : List PrD) (ex : PySem.W.Frag → Bool) (s : PySem.W.SharedT) : AlN := obN fa fn pr ex (He.frG (HandSHeadRun.getT s) (asN n (HandSHeadRun.getT s)))
theorem obT_eq (n : Nat) (fa : List He.Fa) (fn : List He.DefD) (pr : List PrD) (ex : PySem.W.Frag → Bool) (s : PySem.W.SharedT) : obT n fa fn pr ex s = (hkN n fa fn pr ex).obs s.abs := by
  have e : HandSHeadRun.getT s = s.abs.heap.get? := funext (HandSHeadRun.getT_eq s)
  unfold obT
  rw [e]
  rfl
end NL
set_option maxHeartbeats 2000000
/-! What is asked of what the top leaves. -/
namespace NL
open PySem PySem.Spec PyProof.Rows L2
def gD (x : Str) (i : Nat) : He.DefD := ⟨(x, none), x, x, defArgs (top i), defBody (top i), defScope (top i), [], []⟩
def mD (c m q : Str) (st : Stmt) (dv : List He.Dv) : He.DefD := ⟨(c, some m), m, q, defArgs st, defBody st, defScope st, dv, []⟩
def fas0 : List He.Fa := [.glo "is_integer", .glo "is_between", .glo "need_prime", .glo "is_sign", .glo "are_signs", .glo "rest_of", .glo "value_in", .glo "inverse_in", .glo "times_root", .glo "through_in", .glo "is_laying", .glo "need_laying", .glo "profile_in", .glo "needs_in", .glo "points_at", .glo "fits_at", .glo "unfit_in", .glo "read_in", .glo "suspects_in", .glo "_law_mixed"]
def fas1 : List He.Fa := [.glo "_law_begin", .glo "_law_draw", .glo "_law_of", .glo "_law_back", .glo "_law_value", .glo "_law_between", .glo "_law_needs", .glo "_law_stair", .glo "_law_letters", .glo "_law_prime", .glo "_law_shares", .glo "_law_message", .glo "_law_unfit", .glo "_law_suspects", .glo "_law_read_right", .glo "_law_heard", .glo "_law_stands_right", .glo "_law_altered", .glo "_law_deed", .glo "_law_only_one_right"]
def fas2 : List He.Fa := [.glo "_law_hand_right", .glo "law", .glo "Receiver", .glo "Unsound", .glo "NestError", .glo "PRIMES", .free "isinstance", .free "int", .free "bool", .free "tuple", .free "list", .free "len", .free "all", .free "sum", .free "range", .free "enumerate", .free "zip", .free "sorted", .free "dict", .free "min"]
def fas3 : List He.Fa := [.free "repr", .int "MOST_LETTERS" 8, .int "MOST_SHARE" 6, .int "MOST_ROOM" 12, .str "COME" "come", .str "DROP" "drop", .cls "Receiver", .noat "Receiver" "own_prime", .noat "Receiver" "own_laying", .noat "Receiver" "own_past", .meth "Receiver" "__init__", .meth "Receiver" "mail", .meth "Receiver" "here", .meth "Receiver" "come", .meth "Receiver" "drop", .meth "Receiver" "known_by", .meth "Receiver" "known", .meth "Receiver" "more", .meth "Receiver" "read", .meth "Receiver" "suspects"]
def fas4 : List He.Fa := [.meth "Receiver" "undo", .meth "Receiver" "__len__", .mkr "Receiver"]
def fas : List He.Fa := fas0 ++ (fas1 ++ (fas2 ++ (fas3 ++ (fas4))))
def fns0 : List He.DefD := [gD "is_integer" 10, gD "is_between" 13, gD "need_prime" 14, gD "is_sign" 15, gD "are_signs" 16, gD "rest_of" 17, gD "value_in" 18, gD "inverse_in" 19, gD "times_root" 20, gD "through_in" 21, gD "is_laying" 26, gD "need_laying" 27, gD "profile_in" 28, gD "needs_in" 29, gD "points_at" 31, gD "fits_at" 32, gD "unfit_in" 33, gD "read_in" 34, gD "suspects_in" 38, gD "_law_mixed" 41]
def fns1 : List He.DefD := [gD "_law_begin" 42, gD "_law_draw" 43, gD "_law_of" 44, gD "_law_back" 45, gD "_law_value" 46, gD "_law_between" 47, gD "_law_needs" 48, gD "_law_stair" 49, gD "_law_letters" 50, gD "_law_prime" 51, gD "_law_shares" 52, gD "_law_message" 53, gD "_law_unfit" 54, gD "_law_suspects" 55, gD "_law_read_right" 56, gD "_law_heard" 57, gD "_law_stands_right" 58, gD "_law_altered" 59, gD "_law_deed" 60, gD "_law_only_one_right" 61]
def fns2 : List He.DefD := [gD "_law_hand_right" 62, gD "law" 63, mD "Receiver" "__init__" "Receiver.__init__" (inC 0) [], mD "Receiver" "mail" "Receiver.mail" (inC 3) [], mD "Receiver" "here" "Receiver.here" (inC 4) [], mD "Receiver" "come" "Receiver.come" (inC 5) [], mD "Receiver" "drop" "Receiver.drop" (inC 6) [], mD "Receiver" "known_by" "Receiver.known_by" (inC 7) [], mD "Receiver" "known" "Receiver.known" (inC 8) [], mD "Receiver" "more" "Receiver.more" (inC 9) [], mD "Receiver" "read" "Receiver.read" (inC 10) [], mD "Receiver" "suspects" "Receiver.suspects" (inC 11) [], mD "Receiver" "undo" "Receiver.undo" (inC 12) [.int 1], mD "Receiver" "__len__" "Receiver.__len__" (inC 15) [], mD "Unsound" "__init__" "Unsound.__init__" (inU 0) []]
def fns : List He.DefD := fns0 ++ (fns1 ++ (fns2))
def prs : List PrD := [⟨"prime", "Receiver.prime", inC 1⟩, ⟨"laying", "Receiver.laying", inC 2⟩]
def exs (K : PySem.W.Frag) : Bool := unB K (He.ga K "Unsound") (He.ga K "NestError") && He.tupB K "PRIMES" [.int 11, .int 13, .int 17, .int 19, .int 23]
end NL
set_option maxHeartbeats 0
/-! The top's run: what it leaves. -/
namespace NL
open PySem PySem.Spec PyProof.Rows L2
abbrev RW : PySem.W.OpenRow := PySem.W.OpenLaw.row PySem.Challenge.rw_nestletters_k28_whole_receivers
abbrev hkL : PySem.W.Hook := hkN 5 fas fns prs exs
def obL (s : PySem.W.SharedT) : AlN := obT 5 fas fns prs exs s
def loose1 : List Str := ["_wall", "NestError", "BadNumber", "BadPrime", "BadLaying", "Unsound", "BadLetter", "NothingLeft", "is_integer", "PRIMES", "is_between", "need_prime", "is_sign", "are_signs", "rest_of", "value_in", "inverse_in", "times_root", "through_in", "MOST_LETTERS", "MOST_SHARE", "MOST_ROOM", "is_laying", "need_laying", "profile_in", "needs_in"]
def loose2 : List Str := ["points_at", "fits_at", "unfit_in", "read_in", "COME", "DROP", "suspects_in", "Receiver", "_law_mixed", "_law_begin", "_law_draw", "_law_of", "_law_back", "_law_value", "_law_between", "_law_needs", "_law_stair", "_law_letters", "_law_prime", "_law_shares", "_law_message", "_law_unfit", "_law_suspects", "_law_read_right", "_law_heard", "_law_stands_right", "_law_altered", "_law_deed", "_law_only_one_right", "_law_hand_right"]
def loose : List Str := loose1 ++ loose2
theorem run (w : World) : HandSHeadRun.RunEq RW (PySem.W.view RW.prog [63]) hkL obL 20000 loose w := by
  intro os
  kernel_rfl
end NL
set_option maxHeartbeats 2000000
/-! The layer: what is said of data (PyData) alone, no address in sight. -/
namespace NL
open PySem PySem.Spec PyProof.Rows L2

/-! ### data in a heap -/
section
variable {K : PySem.W.Frag} {H H' : Hp} {a : Addr} {xs : List V}
theorem same_t (e : Same H H') (h : SqT K H a xs) : SqT K H' a xs := by
  rcases h with (h | ⟨o, h⟩) | h
  · exact .inl (.inl (e _ _ h))
  · exact .inl (.inr ⟨o, e _ _ h⟩)
  · exact .inr h
theorem same_new {p : Addr} {o : HO} (h : H p = none) : Same H (upd H p o) := fun b x e => by
  rw [upd_ne (ne_of_none e h)]
  exact e
mutual
theorem dp_mono (e : Same H H') : ∀ (d : PyData) (v : V), Dp K H v d → Dp K H' v d
  | .none, _, h => by cases h; exact .non
  | .bool b, _, h => by cases h; exact .bl b
  | .int i, _, h => by cases h; exact .int i
  | .str x, _, h => by cases h; exact .str x
  | .list ds, _, h => by
    cases h with
    | lst hs ha => exact .lst (e.seq hs) (dps_mono e ds _ ha)
  | .tuple ds, _, h => by
    cases h with
    | tup hs ha => exact .tup (same_t e hs) (dps_mono e ds _ ha)
  | .dict _, _, h => by cases h
theorem dps_mono (e : Same H H') : ∀ (ds : List PyData) (vs : List V), DpAll K H vs ds → DpAll K H' vs ds
  | [], _, h => by cases h; exact .nil
  | d :: ds, _, h => by
    cases h with
    | cons h1 h2 => exact .cons (dp_mono e d _ h1) (dps_mono e ds _ h2)
end
theorem dp_int {v : V} {i : Int} (h : Dp K H v (.int i)) : v = .int i := by cases h; rfl
theorem dp_bool {v : V} {b : Bool} (h : Dp K H v (.bool b)) : v = .bl b := by cases h; rfl
theorem dp_none {v : V} (h : Dp K H v .none) : v = .non := by cases h; rfl
theorem dp_str {v : V} {x : Str} (h : Dp K H v (.str x)) : v = .str x := by cases h; rfl
theorem dp_tup {v : V} {ds : List PyData} (h : Dp K H v (.tuple ds)) : ∃ a vs, v = .ref a ∧ SqT K H a vs ∧ DpAll K H vs ds := by
  cases h with
  | tup hs ha => exact ⟨_, _, rfl, hs, ha⟩
theorem dp_lst {v : V} {ds : List PyData} (h : Dp K H v (.list ds)) : ∃ a vs, v = .ref a ∧ SqL K H a vs ∧ DpAll K H vs ds := by
  cases h with
  | lst hs ha => exact ⟨_, _, rfl, hs, ha⟩
theorem dps_len : ∀ {vs : List V} {ds : List PyData}, DpAll K H vs ds → vs.length = ds.length
  | _, _, .nil => rfl
  | _, _, .cons _ t => by rw [List.length_cons, List.length_cons, dps_len t]
theorem dps_get : ∀ {vs : List V} {ds : List PyData} {i : Nat} {d : PyData}, DpAll K H vs ds → ds[i]? = some d → ∃ v, vs[i]? = some v ∧ Dp K H v d
  | _, _, _, _, .nil, h => by simp at h
  | _, _, 0, _, .cons r _, h => by
    cases h
    exact ⟨_, rfl, r⟩
  | _, _, i + 1, _, .cons _ t, h => dps_get (i := i) t h
theorem dps_at : ∀ {vs : List V} {ds : List PyData} {i : Nat} {v : V}, DpAll K H vs ds → vs[i]? = some v → ∃ d, ds[i]? = some d ∧ Dp K H v d
  | _, _, _, _, .nil, h => by simp at h
  | _, _, 0, _, .cons r _, h => by
    cases h
    exact ⟨_, rfl, r⟩
  | _, _, i + 1, _, .cons _ t, h => dps_at (i := i) t h
theorem dps_app : ∀ {vs ws : List V} {ds es : List PyData}, DpAll K H vs ds → DpAll K H ws es → DpAll K H (vs ++ ws) (ds ++ es)
  | _, _, _, _, .nil, s => s
  | _, _, _, _, .cons r t, s => .cons r (dps_app t s)
theorem dps_take : ∀ {vs : List V} {ds : List PyData} (n : Nat), DpAll K H vs ds → DpAll K H (vs.take n) (ds.take n)
  | _, _, 0, _ => .nil
  | _, _, _ + 1, .nil => .nil
  | _, _, n + 1, .cons r t => .cons r (dps_take n t)
theorem dps_drop : ∀ {vs : List V} {ds : List PyData} (n : Nat), DpAll K H vs ds → DpAll K H (vs.drop n) (ds.drop n)
  | _, _, 0, r => r
  | _, _, _ + 1, .nil => .nil
  | _, _, n + 1, .cons _ t => dps_drop n t
theorem dps_set : ∀ {vs : List V} {ds : List PyData} (n : Nat) {v : V} {d : PyData}, DpAll K H vs ds → Dp K H v d → DpAll K H (vs.set n v) (ds.set n d)
  | _, _, _, _, _, .nil, _ => .nil
  | _, _, 0, _, _, .cons _ t, q => .cons q t
  | _, _, n + 1, _, _, .cons r t, q => .cons r (dps_set n t q)
theorem dps_rev : ∀ {vs : List V} {ds : List PyData}, DpAll K H vs ds → DpAll K H vs.reverse ds.reverse
  | _, _, .nil => .nil
  | _, _, .cons r t => by
    rw [List.reverse_cons, List.reverse_cons]
    exact dps_app (dps_rev t) (.cons r .nil)
theorem dps_rep {vs : List V} {ds : List PyData} (r : DpAll K H vs ds) : ∀ n : Nat, DpAll K H (List.replicate n vs).flatten (List.replicate n ds).flatten
  | 0 => .nil
  | n + 1 => by
    rw [List.replicate_succ, List.flatten_cons, List.replicate_succ, List.flatten_cons]
    exact dps_app r (dps_rep r n)
theorem dps_ints : ∀ {vs : List V} {ns : List Int}, DpAll K H vs (ns.map PyData.int) → vs = ns.map V.int
  | _, [], h => by cases h; rfl
  | _, n :: r, h => by
    cases h with
    | cons h1 h2 => rw [dp_int h1, dps_ints h2] <;> rfl
theorem ints_dps : ∀ ns : List Int, DpAll K H (ns.map V.int) (ns.map PyData.int)
  | [] => .nil
  | n :: r => .cons (.int n) (ints_dps r)
theorem dps_bools : ∀ {vs : List V} {ns : List Bool}, DpAll K H vs (ns.map PyData.bool) → vs = ns.map V.bl
  | _, [], h => by cases h; rfl
  | _, n :: r, h => by
    cases h with
    | cons h1 h2 => rw [dp_bool h1, dps_bools h2] <;> rfl
theorem dps_atI {vs : List V} {ds : List PyData} {i : Int} {d : PyData} (h : DpAll K H vs ds) (e : atI ds i = some d) : ∃ v, atI vs i = some v ∧ Dp K H v d := by
  unfold atI at e ⊢
  rw [dps_len h]
  cases q : ixN ds.length i with
  | none =>
    rw [q] at e
    cases e
  | some j =>
    rw [q] at e
    exact dps_get h e
end
def cutD (xs : List PyData) (lo hi : Option Int) : List PyData := (xs.drop (HT.sIx xs.length 0 lo)).take (HT.sIx xs.length xs.length hi - HT.sIx xs.length 0 lo)
theorem dps_cut {K : PySem.W.Frag} {H : Hp} {vs : List V} {ds : List PyData} (lo hi : Option Int) (h : DpAll K H vs ds) : DpAll K H (cutV vs lo hi) (cutD ds lo hi) := by
  unfold cutV cutD
  rw [dps_len h]
  exact dps_take _ (dps_drop _ h)

/-! ### what a receiver remembers -/
/-- a tuple that has no dict of its own -/
def PlainAt (K : PySem.W.Frag) (Hi : Hp) (c : Addr) (d : PyData) : Prop := ∃ o xs ds, Hi c = some (.frz o (.tup xs)) ∧ o.dict = none ∧ DpAll K Hi xs ds ∧ d = .tuple ds
inductive EntryOk (K : PySem.W.Frag) (Hi : Hp) : V → PyData → Prop
  | mk {b c : Addr} {st : V} {d1 d2 : PyData} : SqT K Hi b [st, .ref c] → Dp K Hi st d1 → Dp K Hi (.ref c) d2 → (PlainAt K Hi c d2 ∨ d2 = .tuple []) → EntryOk K Hi (.ref b) (.tuple [d1, d2])
inductive EntsOk (K : PySem.W.Frag) (Hi : Hp) : List V → List PyData → Prop
  | nil : EntsOk K Hi [] []
  | cons {v : V} {vs : List V} {d : PyData} {ds : List PyData} : EntryOk K Hi v d → EntsOk K Hi vs ds → EntsOk K Hi (v :: vs) (d :: ds)
/-- the states a receiver has been in, each with its mail -/
def PastAt (K : PySem.W.Frag) (Hi : Hp) (v : V) (d : PyData) : Prop := ∃ a es ds, v = .ref a ∧ SqT K Hi a es ∧ EntsOk K Hi es ds ∧ d = .tuple ds
section
variable {K : PySem.W.Frag} {H H' : Hp}
theorem PlainAt.mono {c : Addr} {d : PyData} (e : Same H H') (h : PlainAt K H c d) : PlainAt K H' c d := let ⟨o, xs, ds, h1, h2, h3, h4⟩ := h; ⟨o, xs, ds, e _ _ h1, h2, dps_mono e _ _ h3, h4⟩
theorem EntryOk.mono {v : V} {d : PyData} (e : Same H H') (h : EntryOk K H v d) : EntryOk K H' v d := by
  cases h with
  | mk h1 h2 h3 h4 => exact .mk (same_t e h1) (dp_mono e _ _ h2) (dp_mono e _ _ h3) (h4.imp (PlainAt.mono e) id)
theorem EntsOk.mono (e : Same H H') : ∀ {vs : List V} {ds : List PyData}, EntsOk K H vs ds → EntsOk K H' vs ds
  | _, _, .nil => .nil
  | _, _, .cons a b => .cons (a.mono e) (EntsOk.mono e b)
theorem EntryOk.dp {v : V} {d : PyData} (h : EntryOk K H v d) : Dp K H v d := by
  cases h with
  | mk h1 h2 h3 h4 => exact .tup h1 (.cons h2 (.cons h3 .nil))
theorem EntsOk.dps : ∀ {vs : List V} {ds : List PyData}, EntsOk K H vs ds → DpAll K H vs ds
  | _, _, .nil => .nil
  | _, _, .cons a b => .cons a.dp (EntsOk.dps b)
theorem PastAt.mono {v : V} {d : PyData} (e : Same H H') (h : PastAt K H v d) : PastAt K H' v d := let ⟨a, es, ds, h1, h2, h3, h4⟩ := h; ⟨a, es, ds, h1, same_t e h2, h3.mono e, h4⟩
theorem PastAt.dp {v : V} {d : PyData} (h : PastAt K H v d) : Dp K H v d := by
  obtain ⟨a, es, ds, rfl, h2, h3, rfl⟩ := h
  exact .tup h2 h3.dps
theorem EntsOk.app : ∀ {vs ws : List V} {ds es : List PyData}, EntsOk K H vs ds → EntsOk K H ws es → EntsOk K H (vs ++ ws) (ds ++ es)
  | _, _, _, _, .nil, s => s
  | _, _, _, _, .cons a b, s => .cons a (b.app s)
theorem EntsOk.take : ∀ {vs : List V} {ds : List PyData} (n : Nat), EntsOk K H vs ds → EntsOk K H (vs.take n) (ds.take n)
  | _, _, 0, _ => .nil
  | _, _, _ + 1, .nil => .nil
  | _, _, n + 1, .cons a b => .cons a (b.take n)
theorem EntsOk.len : ∀ {vs : List V} {ds : List PyData}, EntsOk K H vs ds → vs.length = ds.length
  | _, _, .nil => rfl
  | _, _, .cons _ b => by rw [List.length_cons, List.length_cons, b.len]
end

/-! ### slots -/
/-- what a slot holds: data; a list | a dict of one's own that may change; a receiver that is read; a receiver, a list, the law's state (at a) that may change -/
inductive SK where
  | un
  | dat (d : PyData)
  | pdt (d : PyData)
  | mls (ds : List PyData)
  | mdk (ks : List Int)
  | rcv (p : Int) (lay past : PyData)
  | rcm (a : Addr) (p : Int) (lay past : PyData)
  | aml (a : Addr) (ds : List PyData)
  | st (a l : Addr) (cells lefts : List Int) (t : Int)
def flds : List Str := ["own_prime", "own_laying", "own_past"]
structure RcvAt (K : PySem.W.Frag) (C : Addr) (Hi H : Hp) (x : Addr) (p : Int) (lay past : PyData) : Prop where
  ex : ∃ dx fs vl vp, H x = some (.ins C dx fs) ∧ (fs.lookup ("own_prime" : Str) = some (.int p) ∧ fs.length ≤ 3) ∧ fs.lookup ("own_laying" : Str) = some vl ∧ fs.lookup ("own_past" : Str) = some vp ∧
    (∀ m, m ∉ flds → fs.lookup m = none) ∧ Dp K Hi vl lay ∧ PastAt K Hi vp past
def kvsOf (ks : List Int) : List (Key × V) := ks.map fun k => (Sum.inl k, V.bl true)
/-- the law's state at a, its remains at l -/
structure StAt (K : PySem.W.Frag) (Hi H : Hp) (a l : Addr) (cells lefts : List Int) (t : Int) : Prop where
  ex : ∃ c : V, H a = some (.dK [(Sum.inr ("cells" : Str), c), (Sum.inr ("lefts" : Str), .ref l), (Sum.inr ("at" : Str), .int t), (Sum.inr ("room" : Str), .int 0)]) ∧ Dp K Hi c (.list (cells.map .int)) ∧ H l = some (.lst (lefts.map V.int))
section
variable (K : PySem.W.Frag) (C : Addr)
def SlotOk (Z Hi H : Hp) (o : Option (Option V)) : SK → Prop
  | .un => True
  | .dat d => ∃ v, o = some (some v) ∧ Dp K Hi v d
  | .pdt d => ∃ a, o = some (some (.ref a)) ∧ Dp K Hi (.ref a) d ∧ PlainAt K Hi a d
  | .mls ds => ∃ a vs, o = some (some (.ref a)) ∧ H a = some (.lst vs) ∧ DpAll K Hi vs ds ∧ Hi a = none ∧ Z a = none
  | .mdk ks => ∃ a, o = some (some (.ref a)) ∧ H a = some (.dK (kvsOf ks)) ∧ Hi a = none ∧ Z a = none
  | .rcv p lay past => ∃ x, o = some (some (.ref x)) ∧ RcvAt K C Hi H x p lay past
  | .rcm a p lay past => o = some (some (.ref a)) ∧ RcvAt K C Hi H a p lay past ∧ Hi a = none ∧ Z a = none
  | .aml a ds => ∃ vs, o = some (some (.ref a)) ∧ H a = some (.lst vs) ∧ DpAll K Hi vs ds ∧ Hi a = none ∧ Z a = none
  | .st a l cells lefts t => o = some (some (.ref a)) ∧ StAt K Hi H a l cells lefts t ∧ Hi a = none ∧ Z a = none ∧ Hi l = none ∧ Z l = none
/-- what of the heap is the slot's own -/
def Own (o : Option (Option V)) : SK → Addr → Prop
  | .mls _, b => o = some (some (.ref b))
  | .mdk _, b => o = some (some (.ref b))
  | .rcm a _ _ _, b => b = a
  | .aml a _, b => b = a
  | .st a l _ _ _, b => b = a ∨ b = l
  | _, _ => False
def isMut : SK → Bool
  | .un => false
  | .dat _ => false
  | .pdt _ => false
  | .rcv .. => false
  | _ => true
theorem own_no {o : Option (Option V)} {k : SK} {a : Addr} (m : isMut k = false) (h : Own o k a) : False := by
  cases k with
  | un => exact h
  | dat _ => exact h
  | pdt _ => exact h
  | rcv _ _ _ => exact h
  | mls _ => cases m
  | mdk _ => cases m
  | rcm _ _ _ _ => cases m
  | aml _ _ => cases m
  | st _ _ _ _ _ => cases m
/-- the slots are as G says; Z: what must stand as it is; Hi: the part that never changes -/
structure SlotsOk (Z Hi H : Hp) (σ : L2.St) (G : List SK) : Prop where
  len : σ.length = G.length
  sub : Same Hi H
  ok : ∀ (i : Nat) (k : SK), G[i]? = some k → SlotOk K C Z Hi H (σ[i]?) k
  inj : ∀ (i j : Nat) (k l : SK) (a : Addr), G[i]? = some k → G[j]? = some l → Own (σ[i]?) k a → Own (σ[j]?) l a → i = j
end
/-- more stands; Hi' has grown by what is new alone -/
structure Ext (Hi H Hi' H' : Hp) : Prop where
  same : Same H H'
  up : Same Hi Hi'
  sub : Same Hi' H'
  new : ∀ b o, Hi' b = some o → Hi b = some o ∨ H b = none
theorem Ext.refl {Hi H : Hp} (s : Same Hi H) : Ext Hi H Hi H := ⟨Same.refl _, Same.refl _, s, fun _ _ h => .inl h⟩
theorem Ext.trans {Hi H Hi1 H1 Hi2 H2 : Hp} (a : Ext Hi H Hi1 H1) (b : Ext Hi1 H1 Hi2 H2) : Ext Hi H Hi2 H2 :=
  ⟨a.same.trans b.same, a.up.trans b.up, b.sub, fun c o h => by
    rcases b.new c o h with q | q
    · exact a.new c o q
    · exact .inr (a.same.free q)⟩
/-- a new object of data -/
theorem Ext.one {Hi H : Hp} {p : Addr} {o : HO} (s : Same Hi H) (h : H p = none) : Ext Hi H (upd Hi p o) (upd H p o) :=
  ⟨same_new h, same_new (s.free h), fun b x e => by
    by_cases hb : b = p
    · subst hb
      rw [upd_same] at e ⊢
      exact e
    · rw [upd_ne hb] at e ⊢
      exact s _ _ e, fun b x e => by
    by_cases hb : b = p
    · exact .inr (by rw [hb]; exact h)
    · rw [upd_ne hb] at e
      exact .inl e⟩
/-- more stands that is no data -/
theorem Ext.grow {Hi H H' : Hp} (s : Same Hi H) (e : Same H H') : Ext Hi H Hi H' := ⟨e, Same.refl _, s.trans e, fun _ _ h => .inl h⟩
theorem Ext.fresh {Hi H Hi' H' : Hp} (e : Ext Hi H Hi' H') {a : Addr} {o : HO} (h : H a = some o) (n : Hi a = none) : Hi' a = none := by
  cases q : Hi' a with
  | none => rfl
  | some u =>
    rcases e.new a u q with z | z
    · rw [n] at z; cases z
    · rw [h] at z; cases z
section
variable {K : PySem.W.Frag} {C : Addr} {Z Hi H Hi' H' : Hp} {σ : L2.St} {G : List SK}
theorem RcvAt.ext {x : Addr} {p : Int} {l q : PyData} (h : RcvAt K C Hi H x p l q) (e : Ext Hi H Hi' H') : RcvAt K C Hi' H' x p l q := by
  obtain ⟨dx, fs, vl, vp, h1, h2, h3, h4, h5, h6, h7⟩ := h.ex
  exact ⟨dx, fs, vl, vp, e.same _ _ h1, h2, h3, h4, h5, dp_mono e.up _ _ h6, h7.mono e.up⟩
theorem StAt.ext {a l : Addr} {cells lefts : List Int} {t : Int} (h : StAt K Hi H a l cells lefts t) (u : Same Hi Hi') (ea : ∀ o, H a = some o → H' a = some o) (el : ∀ o, H l = some o → H' l = some o) : StAt K Hi' H' a l cells lefts t := by
  obtain ⟨c, h1, h2, h3⟩ := h.ex
  exact ⟨c, ea _ h1, dp_mono u _ _ h2, el _ h3⟩
theorem SlotOk.ext {o : Option (Option V)} {k : SK} (h : SlotOk K C Z Hi H o k) (e : Ext Hi H Hi' H') : SlotOk K C Z Hi' H' o k := by
  cases k with
  | un => trivial
  | dat d =>
    obtain ⟨v, h1, h2⟩ := h
    exact ⟨v, h1, dp_mono e.up _ _ h2⟩
  | pdt d =>
    obtain ⟨a, h1, h2, h3⟩ := h
    exact ⟨a, h1, dp_mono e.up _ _ h2, h3.mono e.up⟩
  | mls ds =>
    obtain ⟨a, vs, h1, h2, h3, h4, h5⟩ := h
    exact ⟨a, vs, h1, e.same _ _ h2, dps_mono e.up _ _ h3, e.fresh h2 h4, h5⟩
  | mdk ks =>
    obtain ⟨a, h1, h2, h4, h5⟩ := h
    exact ⟨a, h1, e.same _ _ h2, e.fresh h2 h4, h5⟩
  | rcv p l q =>
    obtain ⟨x, h1, h2⟩ := h
    exact ⟨x, h1, h2.ext e⟩
  | rcm a p l q =>
    obtain ⟨h1, h2, h3, h4⟩ := h
    obtain ⟨dx, fs, vl, vp, z, _⟩ := h2.ex
    exact ⟨h1, h2.ext e, e.fresh z h3, h4⟩
  | aml a ds =>
    obtain ⟨vs, h1, h2, h3, h4, h5⟩ := h
    exact ⟨vs, h1, e.same _ _ h2, dps_mono e.up _ _ h3, e.fresh h2 h4, h5⟩
  | st a l cells lefts t =>
    obtain ⟨h1, h2, h3, h4, h5, h6⟩ := h
    obtain ⟨c, z1, _, z2⟩ := h2.ex
    exact ⟨h1, h2.ext e.up (fun o => e.same _ o) (fun o => e.same _ o), e.fresh z1 h3, h4, e.fresh z2 h5, h6⟩
theorem SlotsOk.ext (S : SlotsOk K C Z Hi H σ G) (e : Ext Hi H Hi' H') : SlotsOk K C Z Hi' H' σ G :=
  ⟨S.len, e.sub, fun i k h => (S.ok i k h).ext e, S.inj⟩
theorem get_set {α : Type} {l : List α} {i j : Nat} {x y : α} (h : (l.set i x)[j]? = some y) : (j = i ∧ y = x) ∨ (j ≠ i ∧ l[j]? = some y) := by
  by_cases e : i = j
  · subst e
    by_cases hl : i < l.length
    · rw [List.getElem?_set_self hl] at h
      exact .inl ⟨rfl, (Option.some.inj h).symm⟩
    · rw [List.getElem?_eq_none (by rw [List.length_set]; omega)] at h
      cases h
  · rw [List.getElem?_set_ne e] at h
    exact .inr ⟨fun q => e q.symm, h⟩
/-- a slot is set to what is no list of one's own -/
theorem SlotsOk.set (S : SlotsOk K C Z Hi H σ G) {i : Nat} {o : Option V} {k : SK} (hm : isMut k = false) (h : SlotOk K C Z Hi H (some o) k) : SlotsOk K C Z Hi H (σ.set i o) (G.set i k) := by
  refine ⟨by rw [List.length_set, List.length_set, S.len], S.sub, fun j l e => ?_, fun j1 j2 l1 l2 a e1 e2 q1 q2 => ?_⟩
  · rcases get_set e with ⟨rfl, rfl⟩ | ⟨hj, e⟩
    · have hl : j < σ.length := by
        have := (List.getElem?_eq_some_iff.mp e).1
        rw [List.length_set] at this
        rw [S.len]; exact this
      rw [List.getElem?_set_self hl]
      exact h
    · rw [List.getElem?_set_ne (Ne.symm hj)]
      exact S.ok j l e
  · rcases get_set e1 with ⟨rfl, rfl⟩ | ⟨hj1, e1⟩
    · exact (own_no hm q1).elim
    · rcases get_set e2 with ⟨rfl, rfl⟩ | ⟨hj2, e2⟩
      · exact (own_no hm q2).elim
      · rw [List.getElem?_set_ne (Ne.symm hj1)] at q1
        rw [List.getElem?_set_ne (Ne.symm hj2)] at q2
        exact S.inj j1 j2 l1 l2 a e1 e2 q1 q2
theorem SlotsOk.setD (S : SlotsOk K C Z Hi H σ G) {i : Nat} {v : V} {d : PyData} (h : Dp K Hi v d) : SlotsOk K C Z Hi H (σ.set i (some v)) (G.set i (.dat d)) :=
  S.set rfl ⟨v, rfl, h⟩
/-- what is a slot's own -/
theorem mut_at {o : Option (Option V)} {k : SK} {a : Addr} (h : SlotOk K C Z Hi H o k) (m : Own o k a) : ∃ u, H a = some u ∧ Hi a = none ∧ Z a = none ∧ ((∀ b p l q, k ≠ .rcm b p l q) → ∀ C dx fs, u ≠ .ins C dx fs) := by
  cases k with
  | mls ds =>
    obtain ⟨b, vs, h1, h2, h3, h4, h5⟩ := h
    have e : o = some (some (.ref a)) := m
    rw [h1] at e
    have e2 : b = a := by
      have := Option.some.inj (Option.some.inj e)
      injection this
    rw [← e2]
    exact ⟨_, h2, h4, h5, fun _ _ _ _ z => nomatch z⟩
  | mdk ds =>
    obtain ⟨b, h1, h2, h4, h5⟩ := h
    have e : o = some (some (.ref a)) := m
    rw [h1] at e
    have e2 : b = a := by
      have := Option.some.inj (Option.some.inj e)
      injection this
    rw [← e2]
    exact ⟨_, h2, h4, h5, fun _ _ _ _ z => nomatch z⟩
  | rcm b p l q =>
    obtain ⟨h1, h2, h3, h4⟩ := h
    obtain ⟨dx, fs, vl, vp, z, _⟩ := h2.ex
    have e : a = b := m
    rw [e]
    exact ⟨_, z, h3, h4, fun n => (n b p l q rfl).elim⟩
  | aml b ds =>
    obtain ⟨vs, h1, h2, h3, h4, h5⟩ := h
    have e : a = b := m
    rw [e]
    exact ⟨_, h2, h4, h5, fun _ _ _ _ z => nomatch z⟩
  | st b l cells lefts t =>
    obtain ⟨h1, h2, h3, h4, h5, h6⟩ := h
    obtain ⟨c, z1, _, z2⟩ := h2.ex
    rcases (show a = b ∨ a = l from m) with e | e
    · rw [e]
      exact ⟨_, z1, h3, h4, fun _ _ _ _ z => nomatch z⟩
    · rw [e]
      exact ⟨_, z2, h5, h6, fun _ _ _ _ z => nomatch z⟩
  | _ => exact (own_no rfl m).elim
/-- a slot is set to what is new (nothing of it was in H) -/
theorem SlotsOk.setN (S : SlotsOk K C Z Hi H σ G) {i : Nat} {v : V} {k : SK} {Hi' H' : Hp} (e : Ext Hi H Hi' H') (h : SlotOk K C Z Hi' H' (some (some v)) k) (hn : ∀ a, Own (some (some v)) k a → H a = none) :
    SlotsOk K C Z Hi' H' (σ.set i (some v)) (G.set i k) := by
  have S2 := S.ext e
  have len : ∀ {j : Nat} {l : SK}, (G.set i k)[j]? = some l → j < σ.length := fun {j l} e => by
    have := (List.getElem?_eq_some_iff.mp e).1
    rw [List.length_set] at this
    rw [S.len]; exact this
  have old : ∀ (j : Nat) (l : SK) (a : Addr), G[j]? = some l → Own (σ[j]?) l a → H a ≠ none := fun j l a e m => by
    obtain ⟨u, h1, _⟩ := mut_at (S.ok j l e) m
    rw [h1]
    exact fun z => nomatch z
  refine ⟨by rw [List.length_set, List.length_set, S.len], S2.sub, fun j l e => ?_, fun j1 j2 l1 l2 a e1 e2 q1 q2 => ?_⟩
  · rcases get_set e with ⟨z1, z2⟩ | ⟨hj, e'⟩
    · rw [z1, List.getElem?_set_self (z1 ▸ len e), z2]
      exact h
    · rw [List.getElem?_set_ne (Ne.symm hj)]
      exact S2.ok j l e'
  · rcases get_set e1 with ⟨z1, r1⟩ | ⟨hj1, e1'⟩
    · rcases get_set e2 with ⟨z2, r2⟩ | ⟨hj2, e2'⟩
      · rw [z1, z2]
      · rw [z1, List.getElem?_set_self (z1 ▸ len e1), r1] at q1
        rw [List.getElem?_set_ne (Ne.symm hj2)] at q2
        exact absurd (hn a q1) (old j2 l2 a e2' q2)
    · rcases get_set e2 with ⟨z2, r2⟩ | ⟨hj2, e2'⟩
      · rw [z2, List.getElem?_set_self (z2 ▸ len e2), r2] at q2
        rw [List.getElem?_set_ne (Ne.symm hj1)] at q1
        exact absurd (hn a q2) (old j1 l1 a e1' q1)
      · rw [List.getElem?_set_ne (Ne.symm hj1)] at q1
        rw [List.getElem?_set_ne (Ne.symm hj2)] at q2
        exact S.inj j1 j2 l1 l2 a e1' e2' q1 q2
/-- a slot is set to a new list, a new dict of one's own (at p, not in H) -/
theorem SlotsOk.setM (S : SlotsOk K C Z Hi H σ G) (zs : Same Z H) {i : Nat} {p : Addr} {o : HO} {k : SK} (hp : H p = none) (h : SlotOk K C Z Hi (upd H p o) (some (some (.ref p))) k) (ho : ∀ a, Own (some (some (.ref p))) k a → a = p := by exact fun a z => by injection (Option.some.inj (Option.some.inj z)).symm) :
    SlotsOk K C Z Hi (upd H p o) (σ.set i (some (.ref p))) (G.set i k) :=
  S.setN (Ext.grow S.sub (same_new (o := o) hp)) h fun a z => by rw [ho a z]; exact hp
/-- the object of a mutable slot changes -/
theorem SlotsOk.chg (S : SlotsOk K C Z Hi H σ G) {i : Nat} {a : Addr} {o : HO} {k k' : SK} (hi : G[i]? = some k) (ma : Own (σ[i]?) k a) (ho : ∀ b, Own (σ[i]?) k' b → Own (σ[i]?) k b) (hr : (∀ b p l q, k ≠ .rcm b p l q) ∨ ∀ (j : Nat) p l q, G[j]? ≠ some (.rcv p l q))
    (h : SlotOk K C Z Hi (upd H a o) (σ[i]?) k') : SlotsOk K C Z Hi (upd H a o) σ (G.set i k') := by
  obtain ⟨u, h2, h3, h4, h5⟩ := mut_at (S.ok i k hi) ma
  have noA : ∀ (j : Nat) (l : SK) (c : Addr), j ≠ i → G[j]? = some l → Own (σ[j]?) l c → c ≠ a := fun j l c hj e m z => hj (S.inj j i l k a e hi (z ▸ m) ma)
  refine ⟨by rw [List.length_set, S.len], fun c x e => ?_, fun j l e => ?_, fun j1 j2 l1 l2 c e1 e2 q1 q2 => ?_⟩
  · rw [upd_ne (fun z => by rw [z, h3] at e; cases e)]
    exact S.sub _ _ e
  · rcases get_set e with ⟨z1, z2⟩ | ⟨hj, e⟩
    · rw [z1, z2]
      exact h
    · have q := S.ok j l e
      have nA := fun c => noA j l c hj e
      cases l with
      | un => trivial
      | dat d => exact q
      | pdt d => exact q
      | mls ds =>
        obtain ⟨c, vs, g1, g2, g3, g4, g5⟩ := q
        exact ⟨c, vs, g1, by rw [upd_ne (nA c g1)]; exact g2, g3, g4, g5⟩
      | mdk ds =>
        obtain ⟨c, g1, g2, g4, g5⟩ := q
        exact ⟨c, g1, by rw [upd_ne (nA c g1)]; exact g2, g4, g5⟩
      | rcv p l r =>
        obtain ⟨x, g1, g2⟩ := q
        obtain ⟨dx, fs, vl, vp, f1, f2⟩ := g2.ex
        rcases hr with hr | hr
        · exact ⟨x, g1, ⟨dx, fs, vl, vp, by rw [upd_ne (ne_of f1 h2 (fun z => h5 hr _ _ _ z.symm))]; exact f1, f2⟩⟩
        · exact (hr j p l r e).elim
      | rcm b p l r =>
        obtain ⟨g1, g2, g3, g4⟩ := q
        obtain ⟨dx, fs, vl, vp, f1, f2⟩ := g2.ex
        exact ⟨g1, ⟨dx, fs, vl, vp, by rw [upd_ne (nA b rfl)]; exact f1, f2⟩, g3, g4⟩
      | aml b ds =>
        obtain ⟨vs, g1, g2, g3, g4, g5⟩ := q
        exact ⟨vs, g1, by rw [upd_ne (nA b rfl)]; exact g2, g3, g4, g5⟩
      | st b l cells lefts t =>
        obtain ⟨g1, g2, g3, g4, g5, g6⟩ := q
        exact ⟨g1, g2.ext (Same.refl _) (fun o z => by rw [upd_ne (nA b (.inl rfl))]; exact z) (fun o z => by rw [upd_ne (nA l (.inr rfl))]; exact z), g3, g4, g5, g6⟩
  · have back : ∀ {j : Nat} {l : SK}, (G.set i k')[j]? = some l → Own (σ[j]?) l c → ∃ l', G[j]? = some l' ∧ Own (σ[j]?) l' c := fun {j l} e m => by
      rcases get_set e with ⟨z1, z2⟩ | ⟨_, e⟩
      · subst z1
        rw [z2] at m
        exact ⟨k, hi, ho c m⟩
      · exact ⟨l, e, m⟩
    obtain ⟨l1', e1', m1'⟩ := back e1 q1
    obtain ⟨l2', e2', m2'⟩ := back e2 q2
    exact S.inj j1 j2 l1' l2' c e1' e2' m1' m2'
end

/-! ### judgements: readings that hang on G and the data alone -/
section
variable (K : PySem.W.Frag) (C : Addr)
def tD (G : List SK) (d : PyData) : TE := fun σ H Q => ∃ Z Hi, SlotsOk K C Z Hi H σ G ∧ ∀ v Hi' H', Ext Hi H Hi' H' → Dp K Hi' v d → Q v H'
def tDT (G : List SK) (b : Bool) : TT := fun σ H Q => ∃ Z Hi, SlotsOk K C Z Hi H σ G ∧ ∀ Hi' H', Ext Hi H Hi' H' → Q b H'
def ArgOk (Hi H : Hp) (v : V) : SK → Prop
  | .dat d => Dp K Hi v d
  | .rcv p l q => ∃ x, v = .ref x ∧ RcvAt K C Hi H x p l q
  | _ => False
inductive ArgsOk (Hi H : Hp) : List V → List SK → Prop
  | nil : ArgsOk Hi H [] []
  | cons {v : V} {vs : List V} {k : SK} {ks : List SK} : ArgOk K C Hi H v k → ArgsOk Hi H vs ks → ArgsOk Hi H (v :: vs) (k :: ks)
def tDA (G : List SK) (ks : List SK) : TA := fun σ H Q => ∃ Z Hi, SlotsOk K C Z Hi H σ G ∧ ∀ vs Hi' H', Ext Hi H Hi' H' → ArgsOk K C Hi' H' vs ks → Q vs H'
/-- what stands since the def's entry: Z the heap then, Hi0 its data -/
structure Fr (Z Hi0 Hi H : Hp) : Prop where
  z : Same Z H
  up : Same Hi0 Hi
  new : ∀ b o, Hi b = some o → Hi0 b = some o ∨ Z b = none
def tS (G : List SK) (N : List SK → Prop) (R : PyData → Prop) : TS := fun D σ H => ∃ Z Hi0 Hi, Fr Z Hi0 Hi H ∧ SlotsOk K C Z Hi H σ G ∧
  (∀ G' σ' Hi' H', N G' → Same Hi Hi' → Fr Z Hi0 Hi' H' → SlotsOk K C Z Hi' H' σ' G' → D.nx σ' H') ∧ (∀ d v Hi' H', R d → Fr Z Hi0 Hi' H' → Same Hi' H' → Dp K Hi' v d → D.rt v H')
end
theorem Fr.ext {Z Hi0 Hi H Hi' H' : Hp} (f : Fr Z Hi0 Hi H) (e : Ext Hi H Hi' H') : Fr Z Hi0 Hi' H' :=
  ⟨f.z.trans e.same, f.up.trans e.up, fun b o h => by
    rcases e.new b o h with q | q
    · exact f.new b o q
    · exact .inr (f.z.free q)⟩
theorem ArgOk.ext {K : PySem.W.Frag} {C : Addr} {Hi H Hi' H' : Hp} {v : V} {k : SK} (h : ArgOk K C Hi H v k) (e : Ext Hi H Hi' H') : ArgOk K C Hi' H' v k := by
  cases k with
  | dat d => exact dp_mono e.up _ _ h
  | rcv p l q =>
    obtain ⟨x, h1, h2⟩ := h
    exact ⟨x, h1, h2.ext e⟩
  | _ => cases h
theorem ArgsOk.ext {K : PySem.W.Frag} {C : Addr} {Hi H Hi' H' : Hp} : ∀ {vs : List V} {ks : List SK}, ArgsOk K C Hi H vs ks → Ext Hi H Hi' H' → ArgsOk K C Hi' H' vs ks
  | _, _, .nil, _ => .nil
  | _, _, .cons a b, e => .cons (a.ext e) (b.ext e)
theorem ArgsOk.len {K : PySem.W.Frag} {C : Addr} {Hi H : Hp} : ∀ {vs : List V} {ks : List SK}, ArgsOk K C Hi H vs ks → vs.length = ks.length
  | _, _, .nil => rfl
  | _, _, .cons a b => by rw [List.length_cons, List.length_cons, b.len]

/-! ### weakening -/
section
variable {X : Cx}
theorem pe_to {e : Expr} {t t' : TE} (h : PE X e t) (m : ∀ σ H Q, t' σ H Q → t σ H Q) : PE X e t' := ⟨fun pins s σ H Q I hw => h.run pins s σ H Q I (m _ _ _ hw)⟩
theorem pt_to {e : Expr} {t t' : TT} (h : PT X e t) (m : ∀ σ H Q, t' σ H Q → t σ H Q) : PT X e t' := ⟨fun pins s σ H Q I hw => h.run pins s σ H Q I (m _ _ _ hw)⟩
theorem pw_to {e : Expr} {t t' : TT} (h : PW X e t) (m : ∀ σ H Q, t' σ H Q → t σ H Q) : PW X e t' := ⟨fun w pins s σ H Q I hw => h.run w pins s σ H Q I (m _ _ _ hw)⟩
theorem pa_to {es : List Expr} {t t' : TA} (h : PA X es t) (m : ∀ σ H Q, t' σ H Q → t σ H Q) : PA X es t' := ⟨fun pos pins s σ H Q I hw => h.run pos pins s σ H Q I (m _ _ _ hw)⟩
theorem ps_to {e : Stmt} {t t' : TS} (h : PS X e t) (m : ∀ D σ H, t' D σ H → t D σ H) : PS X e t' := ⟨fun pins s σ H D I hw => h.run pins s σ H D I (m _ _ _ hw)⟩
theorem pss_to {e : List Stmt} {t t' : TS} (h : PSs X e t) (m : ∀ D σ H, t' D σ H → t D σ H) : PSs X e t' := ⟨fun pins s σ H D I hw => h.run pins s σ H D I (m _ _ _ hw)⟩
theorem pts_to {ifs : List Expr} {t t' : TT} (h : PTs X ifs t) (m : ∀ σ H Q, t' σ H Q → t σ H Q) : PTs X ifs t' := ⟨fun pins s σ H Q I hw => h.run pins s σ H Q I (m _ _ _ hw)⟩
theorem pi_to {tg it : Expr} {t t' : TI} (h : PI X tg it t) (m : ∀ σ H R, t' σ H R → t σ H R) : PI X tg it t' := ⟨fun pins s σ H R I hw => h.run pins s σ H R I (m _ _ _ hw)⟩
theorem pg_to {tg : Expr} {t t' : TG} (h : PG X tg t) (m : ∀ v σ H Q, t' v σ H Q → t v σ H Q) : PG X tg t' := ⟨fun pins s σ H v u Q I r hw => h.run pins s σ H v u Q I r (m _ _ _ _ hw)⟩
theorem pe_or' {e : Expr} {ι : Type} {P : ι → Prop} {t : ι → TE} (h : ∀ i, P i → PE X e (t i)) : PE X e (fun σ H Q => ∃ i, P i ∧ t i σ H Q) := ⟨fun pins s σ H Q I ⟨i, p, hw⟩ => (h i p).run pins s σ H Q I hw⟩
theorem pts_or' {ifs : List Expr} {ι : Type} {P : ι → Prop} {t : ι → TT} (h : ∀ i, P i → PTs X ifs (t i)) : PTs X ifs (fun σ H Q => ∃ i, P i ∧ t i σ H Q) := ⟨fun pins s σ H Q I ⟨i, p, hw⟩ => (h i p).run pins s σ H Q I hw⟩
theorem pss_or' {e : List Stmt} {ι : Type} {P : ι → Prop} {t : ι → TS} (h : ∀ i, P i → PSs X e (t i)) : PSs X e (fun D σ H => ∃ i, P i ∧ t i D σ H) := ⟨fun pins s σ H D I ⟨i, p, hw⟩ => (h i p).run pins s σ H D I hw⟩
end
end NL
set_option maxHeartbeats 2000000
/-! The layer's rules: expressions, tests, arguments. -/
namespace NL
open PySem PySem.Spec PyProof.Rows L2 StX
section
variable {X : Cx} {C : Addr} {G : List SK} {a b c e : Expr} {es : List Expr} {pos : Pos} {d d1 d2 d3 : PyData} {ds es' : List PyData} {k1 k2 : Bool}

/-! ### values known -/
theorem pd_is {d' : PyData} (h : PE X e (tD X.K C G d)) (q : d = d') : PE X e (tD X.K C G d') := q ▸ h
theorem pd_isT {k' : Bool} (h : PT X e (tDT X.K C G k1)) (q : k1 = k') : PT X e (tDT X.K C G k') := q ▸ h
theorem pd_var (i : Nat) {x : Str} (hk : G[i]? = some (.dat d)) (hN : X.N[i]? = some x := by rfl) (hv : Vis X.env.scope x := by first | exact Or.inl rfl | exact Or.inr (Or.inl rfl) | exact Or.inr (Or.inr rfl)) (hd : (x == ("__debug__" : Str)) = false := by decide)
    (hcd : (x == ("__classdict__" : Str)) = false := by decide) : PE X (.Name x pos) (tD X.K C G d) :=
  pe_to (pe_var hN hv hd hcd) fun σ H Q ⟨Z, Hi, S, q⟩ => let ⟨v, h1, h2⟩ := S.ok i _ hk; ⟨v, h1, q v Hi H (Ext.refl S.sub) h2⟩
/-- by a constant's reading -/
theorem pd_c {v : V} (h : PE X e (tC v)) (r : ∀ Hi : Hp, Dp X.K Hi v d) : PE X e (tD X.K C G d) :=
  pe_to h fun σ H Q ⟨Z, Hi, S, q⟩ => q v Hi H (Ext.refl S.sub) (r Hi)
theorem pd_int {i : Int} {j : Nat} : PE X (.Constant (.int i) j pos) (tD X.K C G (.int i)) := pd_c pe_int fun _ => .int i
theorem pd_bool {i : Bool} {j : Nat} : PE X (.Constant (.bool i) j pos) (tD X.K C G (.bool i)) := pd_c pe_bl fun _ => .bl i
theorem pd_none {j : Nat} : PE X (.Constant .none j pos) (tD X.K C G .none) := pd_c pe_non fun _ => .non
theorem pd_str {i : Str} {j : Nat} : PE X (.Constant (.str i) j pos) (tD X.K C G (.str i)) := pd_c pe_str fun _ => .str i
theorem pd_gint {x : Str} {i : Int} (hm : ∃ t, X.mg x = some (.int i t)) (hg : Gl X x := by rfl) (hd : (x == ("__debug__" : Str)) = false := by decide) : PE X (.Name x pos) (tD X.K C G (.int i)) := by
  obtain ⟨t, hm⟩ := hm
  exact pd_c (pe_glob (v := .int i) hg hm ⟨t, rfl⟩ hd) fun _ => .int i
theorem pd_gstr {x z : Str} (hm : ∃ t, X.mg x = some (.str z t)) (hg : Gl X x := by rfl) (hd : (x == ("__debug__" : Str)) = false := by decide) : PE X (.Name x pos) (tD X.K C G (.str z)) := by
  obtain ⟨t, hm⟩ := hm
  exact pd_c (pe_glob (v := .str z) hg hm ⟨t, rfl⟩ hd) fun _ => .str z
theorem pd_gref {x : Str} {p : Addr} (hm : X.mg x = some (.ref p)) (r : ∀ Hi : Hp, Dp X.K Hi (.ref p) d) (hg : Gl X x := by rfl) (hd : (x == ("__debug__" : Str)) = false := by decide) : PE X (.Name x pos) (tD X.K C G d) :=
  pd_c (pe_glob (v := .ref p) hg hm rfl hd) r

/-! ### operators -/
/-- an operator's rule over data: what it gives on values that stand for d1, d2 -/
def OpD (K : PySem.W.Frag) (r : R2) (d1 d2 d : PyData) : Prop := ∀ (Hi H : Hp) (x y : V) (Q : VK), Same Hi H → Dp K Hi x d1 → Dp K Hi y d2 → (∀ v Hi' H', Ext Hi H Hi' H' → Dp K Hi' v d → Q v H') → r x y H Q
theorem t2D {ta tb : TE} {r : R2} (h : OpD X.K r d1 d2 d) {σ : L2.St} {H : Hp} {Q : VK} (hw : tD X.K C G d σ H Q) (ha : ∀ H Q, tD X.K C G d1 σ H Q → ta σ H Q) (hb : ∀ H Q, tD X.K C G d2 σ H Q → tb σ H Q) : tOp r ta tb σ H Q := by
  obtain ⟨Z, Hi, S, q⟩ := hw
  refine ha H _ ⟨Z, Hi, S, fun x Hi1 H1 e1 h1 => ?_⟩
  refine hb H1 _ ⟨Z, Hi1, S.ext e1, fun y Hi2 H2 e2 h2 => ?_⟩
  exact h Hi2 H2 x y Q e2.sub (dp_mono e2.up _ _ h1) h2 fun v Hi3 H3 e3 h3 => q v Hi3 H3 ((e1.trans e2).trans e3) h3
theorem pd_op {op : Operator} {r : R2} (ho : OpR X (binaryOp op) r) (ha : PE X a (tD X.K C G d1)) (hb : PE X b (tD X.K C G d2)) (h : OpD X.K r d1 d2 d) : PE X (.BinOp a op b pos) (tD X.K C G d) :=
  pe_to (pe_op ho ha hb) fun σ H Q hw => t2D h hw (fun _ _ z => z) (fun _ _ z => z)
theorem pd_cmp {op : CmpOp} {r : R2} (ho : OpR X (compareOp op) r) (ha : PE X a (tD X.K C G d1)) (hb : PE X b (tD X.K C G d2)) (h : OpD X.K r d1 d2 d) (hm : behindInMarks op b = false := by first | exact nomark _ | rfl) : PE X (.Compare a [op] [b] pos) (tD X.K C G d) :=
  pe_to (pe_cmpR ho ha hb hm) fun σ H Q hw => t2D h hw (fun _ _ z => z) (fun _ _ z => z)
/-- a test by a value's reading -/
theorem tTest_D {t : TE} (m : ∀ σ H Q, tD X.K C G (.bool k1) σ H Q → t σ H Q) : ∀ σ H Q, tDT X.K C G k1 σ H Q → tTest t σ H Q := fun σ H Q ⟨Z, Hi, S, q⟩ =>
  m σ H _ ⟨Z, Hi, S, fun v Hi' H' e h => ⟨k1, dp_bool h, q Hi' H' e⟩⟩
theorem pt_cmpD {op : CmpOp} {r : R2} (ho : OpR X (compareOp op) r) (ha : PE X a (tD X.K C G d1)) (hb : PE X b (tD X.K C G d2)) (h : OpD X.K r d1 d2 (.bool k1)) (hm : behindInMarks op b = false := by first | exact nomark _ | rfl) : PT X (.Compare a [op] [b] pos) (tDT X.K C G k1) :=
  pt_to (pt_cmpR ho ha hb hm) (tTest_D fun σ H Q hw => t2D h hw (fun _ _ z => z) (fun _ _ z => z))
theorem pt_valD (h : PE X e (tD X.K C G (.bool k1))) (he : ∀ whole, isTrue e X.env whole = (do let v ← whole; standAt e.pos; holding [v] (truthy v)) := by intro _; rfl) : PT X e (tDT X.K C G k1) :=
  pt_to (pt_val h he) (fun σ H Q ⟨Z, Hi, S, q⟩ => ⟨Z, Hi, S, fun v Hi' H' e h => ⟨k1, dp_bool h, q Hi' H' e⟩⟩)
/-- two ints -/
theorem opd_int {C' : Int → Int → Prop} {g : Int → Int → Int} {K : PySem.W.Frag} {i j : Int} (hc : C' i j) : OpD K (rI C' fun i j => .int (g i j)) (.int i) (.int j) (.int (g i j)) := fun Hi H x y Q s h1 h2 q =>
  ⟨i, j, dp_int h1, dp_int h2, hc, q _ Hi H (Ext.refl s) (.int _)⟩
theorem opd_int0 {g : Int → Int → Int} {K : PySem.W.Frag} {i j : Int} : OpD K (rI0 fun i j => .int (g i j)) (.int i) (.int j) (.int (g i j)) := fun Hi H x y Q s h1 h2 q =>
  ⟨i, j, dp_int h1, dp_int h2, q _ Hi H (Ext.refl s) (.int _)⟩
theorem opd_bl0 {g : Int → Int → Bool} {K : PySem.W.Frag} {i j : Int} : OpD K (rI0 fun i j => .bl (g i j)) (.int i) (.int j) (.bool (g i j)) := fun Hi H x y Q s h1 h2 q =>
  ⟨i, j, dp_int h1, dp_int h2, q _ Hi H (Ext.refl s) (.bl _)⟩
variable {i j : Int}
theorem pd_add (ha : PE X a (tD X.K C G (.int i))) (hb : PE X b (tD X.K C G (.int j))) : PE X (.BinOp a .Add b pos) (tD X.K C G (.int (i + j))) := pd_op op_add ha hb opd_int0
theorem pd_sub (ha : PE X a (tD X.K C G (.int i))) (hb : PE X b (tD X.K C G (.int j))) : PE X (.BinOp a .Sub b pos) (tD X.K C G (.int (i - j))) := pd_op op_sub ha hb opd_int0
theorem pd_mul (ha : PE X a (tD X.K C G (.int i))) (hb : PE X b (tD X.K C G (.int j))) (hc : CMul i j) : PE X (.BinOp a .Mult b pos) (tD X.K C G (.int (i * j))) := pd_op op_mul ha hb (opd_int hc)
theorem pd_mod (ha : PE X a (tD X.K C G (.int i))) (hb : PE X b (tD X.K C G (.int j))) (hc : 0 < j) : PE X (.BinOp a .Mod b pos) (tD X.K C G (.int (i % j))) := pd_op op_mod ha hb (opd_int hc)
theorem pd_fdiv (ha : PE X a (tD X.K C G (.int i))) (hb : PE X b (tD X.K C G (.int j))) (hc : CDiv i j) : PE X (.BinOp a .FloorDiv b pos) (tD X.K C G (.int (i / j))) := pd_op op_fdiv ha hb (opd_int hc)
theorem pt_lt (ha : PE X a (tD X.K C G (.int i))) (hb : PE X b (tD X.K C G (.int j))) : PT X (.Compare a [.Lt] [b] pos) (tDT X.K C G (decide (i < j))) := pt_cmpD op_lt ha hb opd_bl0
theorem pt_le (ha : PE X a (tD X.K C G (.int i))) (hb : PE X b (tD X.K C G (.int j))) : PT X (.Compare a [.LtE] [b] pos) (tDT X.K C G (decide (i ≤ j))) := pt_cmpD op_le ha hb opd_bl0
theorem pt_gt (ha : PE X a (tD X.K C G (.int i))) (hb : PE X b (tD X.K C G (.int j))) : PT X (.Compare a [.Gt] [b] pos) (tDT X.K C G (decide (j < i))) := pt_cmpD op_gt ha hb opd_bl0
theorem pt_ge (ha : PE X a (tD X.K C G (.int i))) (hb : PE X b (tD X.K C G (.int j))) : PT X (.Compare a [.GtE] [b] pos) (tDT X.K C G (decide (j ≤ i))) := pt_cmpD op_ge ha hb opd_bl0
theorem pd_ge (ha : PE X a (tD X.K C G (.int i))) (hb : PE X b (tD X.K C G (.int j))) : PE X (.Compare a [.GtE] [b] pos) (tD X.K C G (.bool (decide (j ≤ i)))) := pd_cmp op_ge ha hb opd_bl0
theorem pd_le (ha : PE X a (tD X.K C G (.int i))) (hb : PE X b (tD X.K C G (.int j))) : PE X (.Compare a [.LtE] [b] pos) (tD X.K C G (.bool (decide (i ≤ j)))) := pd_cmp op_le ha hb opd_bl0
/-- == and != of data -/
theorem opd_eqD {K : PySem.W.Frag} (s1 : SeqAt.shaped d1 = true) (s2 : SeqAt.shaped d2 = true) : OpD K (rEqD K) d1 d2 (.bool (PyData.eqv d1 d2)) := fun Hi H x y Q s h1 h2 q =>
  ⟨d1, d2, dp_mono s _ _ h1, dp_mono s _ _ h2, s1, s2, q _ Hi H (Ext.refl s) (.bl _)⟩
theorem opd_neD {K : PySem.W.Frag} (s1 : SeqAt.shaped d1 = true) (s2 : SeqAt.shaped d2 = true) : OpD K (rNeD K) d1 d2 (.bool (!PyData.eqv d1 d2)) := fun Hi H x y Q s h1 h2 q =>
  ⟨d1, d2, dp_mono s _ _ h1, dp_mono s _ _ h2, s1, s2, q _ Hi H (Ext.refl s) (.bl _)⟩
theorem pd_eq {n : Nat} (hr : Room n X.A) (ha : PE X a (tD X.K C G d1)) (hb : PE X b (tD X.K C G d2)) (s1 : SeqAt.shaped d1 = true) (s2 : SeqAt.shaped d2 = true) : PE X (.Compare a [.Eq] [b] pos) (tD X.K C G (.bool (PyData.eqv d1 d2))) :=
  pd_cmp (op_eqD hr.units) ha hb (opd_eqD s1 s2)
theorem pd_ne {n : Nat} (hr : Room n X.A) (ha : PE X a (tD X.K C G d1)) (hb : PE X b (tD X.K C G d2)) (s1 : SeqAt.shaped d1 = true) (s2 : SeqAt.shaped d2 = true) : PE X (.Compare a [.NotEq] [b] pos) (tD X.K C G (.bool (!PyData.eqv d1 d2))) :=
  pd_cmp (op_neD hr.units) ha hb (opd_neD s1 s2)
theorem pt_eq {n : Nat} (hr : Room n X.A) (ha : PE X a (tD X.K C G d1)) (hb : PE X b (tD X.K C G d2)) (s1 : SeqAt.shaped d1 = true) (s2 : SeqAt.shaped d2 = true) : PT X (.Compare a [.Eq] [b] pos) (tDT X.K C G (PyData.eqv d1 d2)) :=
  pt_cmpD (op_eqD hr.units) ha hb (opd_eqD s1 s2)
theorem pt_ne {n : Nat} (hr : Room n X.A) (ha : PE X a (tD X.K C G d1)) (hb : PE X b (tD X.K C G d2)) (s1 : SeqAt.shaped d1 = true) (s2 : SeqAt.shaped d2 = true) : PT X (.Compare a [.NotEq] [b] pos) (tDT X.K C G (!PyData.eqv d1 d2)) :=
  pt_cmpD (op_neD hr.units) ha hb (opd_neD s1 s2)
/-- ints (by the plain rule) -/
theorem opd_eqI {K : PySem.W.Frag} : OpD K rEq (.int i) (.int j) (.bool (decide (i = j))) := fun Hi H x y Q s h1 h2 q => by
  obtain rfl := dp_int h1
  obtain rfl := dp_int h2
  refine ⟨rfl, ?_⟩
  rw [show decide (V.int i = V.int j) = decide (i = j) from dec_int.trans (by rw [Bool.beq_eq_decide_eq])]
  exact q _ Hi H (Ext.refl s) (.bl _)
theorem opd_neI {K : PySem.W.Frag} : OpD K rNe (.int i) (.int j) (.bool (!decide (i = j))) := fun Hi H x y Q s h1 h2 q => by
  obtain rfl := dp_int h1
  obtain rfl := dp_int h2
  refine ⟨rfl, ?_⟩
  rw [show decide (V.int i = V.int j) = decide (i = j) from dec_int.trans (by rw [Bool.beq_eq_decide_eq])]
  exact q _ Hi H (Ext.refl s) (.bl _)
theorem pt_eqI (ha : PE X a (tD X.K C G (.int i))) (hb : PE X b (tD X.K C G (.int j))) : PT X (.Compare a [.Eq] [b] pos) (tDT X.K C G (decide (i = j))) := pt_cmpD op_eq ha hb opd_eqI
theorem pt_neI (ha : PE X a (tD X.K C G (.int i))) (hb : PE X b (tD X.K C G (.int j))) : PT X (.Compare a [.NotEq] [b] pos) (tDT X.K C G (!decide (i = j))) := pt_cmpD op_ne ha hb opd_neI
theorem pd_eqI (ha : PE X a (tD X.K C G (.int i))) (hb : PE X b (tD X.K C G (.int j))) : PE X (.Compare a [.Eq] [b] pos) (tD X.K C G (.bool (decide (i = j)))) := pd_cmp op_eq ha hb opd_eqI
theorem pd_neI (ha : PE X a (tD X.K C G (.int i))) (hb : PE X b (tD X.K C G (.int j))) : PE X (.Compare a [.NotEq] [b] pos) (tD X.K C G (.bool (!decide (i = j)))) := pd_cmp op_ne ha hb opd_neI
/-- a chain of two comparisons of ints -/
theorem tChain_D {r r' : R2} {ta tb tc : TE} (h : OpD X.K r d1 d2 (.bool k1)) (h' : k1 = true → OpD X.K r' d2 d3 (.bool k2)) {σ : L2.St} {H : Hp} {Q : VK} (hw : tD X.K C G (.bool (k1 && k2)) σ H Q)
    (ha : ∀ H Q, tD X.K C G d1 σ H Q → ta σ H Q) (hb : ∀ H Q, tD X.K C G d2 σ H Q → tb σ H Q) (hc : k1 = true → ∀ H Q, tD X.K C G d3 σ H Q → tc σ H Q) : tChain r r' ta tb tc σ H Q := by
  obtain ⟨Z, Hi, S, q⟩ := hw
  refine ha H _ ⟨Z, Hi, S, fun x Hi1 H1 e1 h1 => ?_⟩
  refine hb H1 _ ⟨Z, Hi1, S.ext e1, fun y Hi2 H2 e2 h2 => ?_⟩
  refine h Hi2 H2 x y _ e2.sub (dp_mono e2.up _ _ h1) h2 fun v Hi3 H3 e3 h3 => ⟨k1, dp_bool h3, ?_⟩
  have e := (e1.trans e2).trans e3
  cases k1 with
  | false => exact q _ Hi3 H3 e (.bl _)
  | true =>
    show tc σ H3 _
    refine hc rfl H3 _ ⟨Z, Hi3, S.ext e, fun w Hi4 H4 e4 h4 => ?_⟩
    refine h' rfl Hi4 H4 y w Q e4.sub (dp_mono (e3.trans e4).up _ _ h2) h4 fun v Hi5 H5 e5 h5 => q v Hi5 H5 ((e.trans e4).trans e5) ?_
    rw [Bool.true_and]
    exact h5
theorem pd_chain {op op' : CmpOp} {r r' : R2} (ho : OpR X (compareOp op) r) (ho' : OpR X (compareOp op') r') (ha : PE X a (tD X.K C G d1)) (hb : PE X b (tD X.K C G d2)) (hc : PE X c (tD X.K C G d3)) (h : OpD X.K r d1 d2 (.bool k1)) (h' : OpD X.K r' d2 d3 (.bool k2)) (hm : lastMarks [op, op'] [b, c] = false := by with_unfolding_all rfl) :
    PE X (.Compare a [op, op'] [b, c] pos) (tD X.K C G (.bool (k1 && k2))) :=
  pe_to (pe_chain ho ho' ha hb hc hm) fun σ H Q hw => tChain_D h (fun _ => h') hw (fun _ _ z => z) (fun _ _ z => z) fun _ _ _ z => z
theorem pt_chainD {op op' : CmpOp} {r r' : R2} (ho : OpR X (compareOp op) r) (ho' : OpR X (compareOp op') r') (ha : PE X a (tD X.K C G d1)) (hb : PE X b (tD X.K C G d2)) (hc : PE X c (tD X.K C G d3)) (h : OpD X.K r d1 d2 (.bool k1)) (h' : OpD X.K r' d2 d3 (.bool k2)) (hm : lastMarks [op, op'] [b, c] = false := by with_unfolding_all rfl) :
    PT X (.Compare a [op, op'] [b, c] pos) (tDT X.K C G (k1 && k2)) :=
  pt_to (pt_chain ho ho' ha hb hc hm) (tTest_D fun σ H Q hw => tChain_D h (fun _ => h') hw (fun _ _ z => z) (fun _ _ z => z) fun _ _ _ z => z)
theorem pd_lele {l : Int} (ha : PE X a (tD X.K C G (.int i))) (hb : PE X b (tD X.K C G (.int j))) (hc : PE X c (tD X.K C G (.int l))) (hm : lastMarks [.LtE, .LtE] [b, c] = false := by with_unfolding_all rfl) : PE X (.Compare a [.LtE, .LtE] [b, c] pos) (tD X.K C G (.bool (decide (i ≤ j) && decide (j ≤ l)))) :=
  pd_chain op_le op_le ha hb hc opd_bl0 opd_bl0 hm
theorem pt_lele {l : Int} (ha : PE X a (tD X.K C G (.int i))) (hb : PE X b (tD X.K C G (.int j))) (hc : PE X c (tD X.K C G (.int l))) (hm : lastMarks [.LtE, .LtE] [b, c] = false := by with_unfolding_all rfl) : PT X (.Compare a [.LtE, .LtE] [b, c] pos) (tDT X.K C G (decide (i ≤ j) && decide (j ≤ l))) :=
  pt_chainD op_le op_le ha hb hc opd_bl0 opd_bl0 hm
theorem pt_lelt {l : Int} (ha : PE X a (tD X.K C G (.int i))) (hb : PE X b (tD X.K C G (.int j))) (hc : PE X c (tD X.K C G (.int l))) (hm : lastMarks [.LtE, .Lt] [b, c] = false := by with_unfolding_all rfl) : PT X (.Compare a [.LtE, .Lt] [b, c] pos) (tDT X.K C G (decide (i ≤ j) && decide (j < l))) :=
  pt_chainD op_le op_lt ha hb hc opd_bl0 opd_bl0 hm
/-- in, not in, of ints -/
theorem inV_ints (x : Int) : ∀ ns : List Int, inV (.int x) (ns.map V.int) = ns.any fun y => decide (y = x)
  | [] => rfl
  | n :: r => by
    have ih := inV_ints x r
    unfold inV at ih ⊢
    rw [List.map_cons, List.any_cons, List.any_cons, ih]
    congr 1
theorem flat_ints (ns : List Int) : (ns.map V.int).all flatV = true := by
  rw [List.all_map]
  exact List.all_eq_true.mpr fun _ _ => rfl
theorem opd_inT {K : PySem.W.Frag} {ns : List Int} {neg : Bool} : OpD K (rIn K neg) (.int i) (.tuple (ns.map .int)) (.bool (if neg then !(ns.any fun y => decide (y = i)) else ns.any fun y => decide (y = i))) := fun Hi H x y Q s h1 h2 q => by
  obtain rfl := dp_int h1
  obtain ⟨p, vs, rfl, hs, ha⟩ := dp_tup h2
  obtain rfl := dps_ints ha
  refine ⟨p, _, rfl, .inr (same_t s hs), rfl, flat_ints ns, ?_⟩
  rw [inV_ints]
  exact q _ Hi H (Ext.refl s) (.bl _)
theorem opd_inL {K : PySem.W.Frag} {ns : List Int} {neg : Bool} : OpD K (rIn K neg) (.int i) (.list (ns.map .int)) (.bool (if neg then !(ns.any fun y => decide (y = i)) else ns.any fun y => decide (y = i))) := fun Hi H x y Q s h1 h2 q => by
  obtain rfl := dp_int h1
  obtain ⟨p, vs, rfl, hs, ha⟩ := dp_lst h2
  obtain rfl := dps_ints ha
  refine ⟨p, _, rfl, .inl (s.seq hs), rfl, flat_ints ns, ?_⟩
  rw [inV_ints]
  exact q _ Hi H (Ext.refl s) (.bl _)
/-- is None -/
def isNone : PyData → Bool
  | .none => true
  | _ => false
theorem opd_isN {K : PySem.W.Frag} : OpD K (fun x y H Q => y = .non ∧ Q (.bl (decide (x = .non))) H) d .none (.bool (isNone d)) := fun Hi H x y Q s h1 h2 q => by
  refine ⟨dp_none h2, ?_⟩
  have e : decide (x = V.non) = isNone d := by cases h1 <;> rfl
  rw [e]
  exact q _ Hi H (Ext.refl s) (.bl _)
theorem pd_isN (ha : PE X a (tD X.K C G d)) (hb : PE X b (tD X.K C G .none)) : PE X (.Compare a [.Is] [b] pos) (tD X.K C G (.bool (isNone d))) := pd_cmp op_isN ha hb opd_isN

/-! ### and, or, not, if -/
theorem pt_and (ha : PT X a (tDT X.K C G k1)) (hb : k1 = true → PW X (.BoolOp .And (b :: es) pos) (tDT X.K C G k2)) : PW X (.BoolOp .And (a :: b :: es) pos) (tDT X.K C G (k1 && k2)) := by
  cases k1 with
  | true => exact pw_to (pw_and ha (hb rfl)) fun σ H Q ⟨Z, Hi, S, q⟩ => ⟨Z, Hi, S, fun Hi1 H1 e1 => ⟨Z, Hi1, S.ext e1, fun Hi2 H2 e2 => q Hi2 H2 (e1.trans e2)⟩⟩
  | false => exact pw_to (pw_and ha (tB' := fun _ _ _ => False) ⟨fun _ _ _ _ _ _ _ z => z.elim⟩) fun σ H Q ⟨Z, Hi, S, q⟩ => ⟨Z, Hi, S, fun Hi1 H1 e1 => q Hi1 H1 e1⟩
theorem pt_or (ha : PT X a (tDT X.K C G k1)) (hb : k1 = false → PW X (.BoolOp .Or (b :: es) pos) (tDT X.K C G k2)) : PW X (.BoolOp .Or (a :: b :: es) pos) (tDT X.K C G (k1 || k2)) := by
  cases k1 with
  | false => exact pw_to (pw_or ha (hb rfl)) fun σ H Q ⟨Z, Hi, S, q⟩ => ⟨Z, Hi, S, fun Hi1 H1 e1 => ⟨Z, Hi1, S.ext e1, fun Hi2 H2 e2 => q Hi2 H2 (e1.trans e2)⟩⟩
  | true => exact pw_to (pw_or ha (tB' := fun _ _ _ => False) ⟨fun _ _ _ _ _ _ _ z => z.elim⟩) fun σ H Q ⟨Z, Hi, S, q⟩ => ⟨Z, Hi, S, fun Hi1 H1 e1 => q Hi1 H1 e1⟩
theorem pt_notD (ha : PT X a (tDT X.K C G k1)) : PT X (.UnaryOp .Not a pos) (tDT X.K C G (!k1)) :=
  pt_to (pt_not ha) fun σ H Q ⟨Z, Hi, S, q⟩ => ⟨Z, Hi, S, fun Hi1 H1 e1 => q Hi1 H1 e1⟩
theorem pd_and (ha : PE X a (tD X.K C G (.bool k1))) (hb : k1 = true → PE X (.BoolOp .And (b :: es) pos) (tD X.K C G (.bool k2))) : PE X (.BoolOp .And (a :: b :: es) pos) (tD X.K C G (.bool (k1 && k2))) := by
  cases k1 with
  | true => exact pe_to (pe_and ha (hb rfl)) fun σ H Q ⟨Z, Hi, S, q⟩ => ⟨Z, Hi, S, fun v Hi1 H1 e1 h => ⟨true, dp_bool h, ⟨Z, Hi1, S.ext e1, fun v Hi2 H2 e2 h2 => q v Hi2 H2 (e1.trans e2) h2⟩⟩⟩
  | false => exact pe_to (pe_and ha (tb := fun _ _ _ => False) ⟨fun _ _ _ _ _ _ z => z.elim⟩) fun σ H Q ⟨Z, Hi, S, q⟩ => ⟨Z, Hi, S, fun v Hi1 H1 e1 h => ⟨false, dp_bool h, q _ Hi1 H1 e1 (.bl _)⟩⟩
theorem pd_or (ha : PE X a (tD X.K C G (.bool k1))) (hb : k1 = false → PE X (.BoolOp .Or (b :: es) pos) (tD X.K C G (.bool k2))) : PE X (.BoolOp .Or (a :: b :: es) pos) (tD X.K C G (.bool (k1 || k2))) := by
  cases k1 with
  | false => exact pe_to (pe_or ha (hb rfl)) fun σ H Q ⟨Z, Hi, S, q⟩ => ⟨Z, Hi, S, fun v Hi1 H1 e1 h => ⟨false, dp_bool h, ⟨Z, Hi1, S.ext e1, fun v Hi2 H2 e2 h2 => q v Hi2 H2 (e1.trans e2) h2⟩⟩⟩
  | true => exact pe_to (pe_or ha (tb := fun _ _ _ => False) ⟨fun _ _ _ _ _ _ z => z.elim⟩) fun σ H Q ⟨Z, Hi, S, q⟩ => ⟨Z, Hi, S, fun v Hi1 H1 e1 h => ⟨true, dp_bool h, q _ Hi1 H1 e1 (.bl _)⟩⟩
theorem pd_notD (ha : PE X a (tD X.K C G (.bool k1))) : PE X (.UnaryOp .Not a pos) (tD X.K C G (.bool (!k1))) :=
  pe_to (pe_not ha) fun σ H Q ⟨Z, Hi, S, q⟩ => ⟨Z, Hi, S, fun v Hi1 H1 e1 h => ⟨k1, dp_bool h, q _ Hi1 H1 e1 (.bl _)⟩⟩
theorem pd_if {t : Expr} (ht : PT X t (tDT X.K C G k1)) (ha : k1 = true → PE X a (tD X.K C G d)) (hb : k1 = false → PE X b (tD X.K C G d)) : PE X (.IfExp t a b pos) (tD X.K C G d) := by
  cases k1 with
  | true => exact pe_to (pe_ifExp ht (ha rfl) (tb := fun _ _ _ => False) ⟨fun _ _ _ _ _ _ z => z.elim⟩) fun σ H Q ⟨Z, Hi, S, q⟩ => ⟨Z, Hi, S, fun Hi1 H1 e1 => ⟨Z, Hi1, S.ext e1, fun v Hi2 H2 e2 h2 => q v Hi2 H2 (e1.trans e2) h2⟩⟩
  | false => exact pe_to (pe_ifExp ht (ta := fun _ _ _ => False) ⟨fun _ _ _ _ _ _ z => z.elim⟩ (hb rfl)) fun σ H Q ⟨Z, Hi, S, q⟩ => ⟨Z, Hi, S, fun Hi1 H1 e1 => ⟨Z, Hi1, S.ext e1, fun v Hi2 H2 e2 h2 => q v Hi2 H2 (e1.trans e2) h2⟩⟩

/-! ### arguments, displays -/
theorem da_nil : PA X [] (tDA X.K C G []) := pa_to pa_nil fun σ H Q ⟨Z, Hi, S, q⟩ => q [] Hi H (Ext.refl S.sub) .nil
theorem da_cons {ks : List SK} (h : PE X e (tD X.K C G d)) (hr : PA X es (tDA X.K C G ks)) (hs : starEach (e :: es) X.env = (false, eval e X.env) :: starEach es X.env := by rfl) : PA X (e :: es) (tDA X.K C G (.dat d :: ks)) :=
  pa_to (pa_cons h hr hs) fun σ H Q ⟨Z, Hi, S, q⟩ => ⟨Z, Hi, S, fun v Hi1 H1 e1 h1 => ⟨Z, Hi1, S.ext e1, fun vs Hi2 H2 e2 h2 => q (v :: vs) Hi2 H2 (e1.trans e2) (.cons (dp_mono e2.up _ _ h1) h2)⟩⟩
/-- a receiver as an argument -/
theorem da_rcv (n : Nat) {x : Str} {p : Int} {l q : PyData} {ks : List SK} (hk : G[n]? = some (.rcv p l q)) (hr : PA X es (tDA X.K C G ks)) (hN : X.N[n]? = some x := by rfl) (hv : Vis X.env.scope x := by first | exact Or.inl rfl | exact Or.inr (Or.inl rfl) | exact Or.inr (Or.inr rfl))
    (hd : (x == ("__debug__" : Str)) = false := by decide) (hcd : (x == ("__classdict__" : Str)) = false := by decide) (hs : starEach (.Name x pos :: es) X.env = (false, eval (.Name x pos) X.env) :: starEach es X.env := by rfl) : PA X (.Name x pos :: es) (tDA X.K C G (.rcv p l q :: ks)) :=
  pa_to (pa_cons (pe_var hN hv hd hcd) hr hs) fun σ H Q ⟨Z, Hi, S, q⟩ => by
    obtain ⟨v, h1, h2⟩ := S.ok n _ hk
    exact ⟨.ref v, h1, Z, Hi, S, fun vs Hi2 H2 e2 h3 => q (.ref v :: vs) Hi2 H2 e2 (.cons ⟨v, rfl, h2.ext e2⟩ h3)⟩
/-- items of data alone -/
def tDs (K : PySem.W.Frag) (C : Addr) (G : List SK) (ds : List PyData) : TA := fun σ H Q => ∃ Z Hi, SlotsOk K C Z Hi H σ G ∧ ∀ vs Hi' H', Ext Hi H Hi' H' → DpAll K Hi' vs ds → Q vs H'
theorem ds_nil : PA X [] (tDs X.K C G []) := pa_to pa_nil fun σ H Q ⟨Z, Hi, S, q⟩ => q [] Hi H (Ext.refl S.sub) .nil
theorem ds_cons (h : PE X e (tD X.K C G d)) (hr : PA X es (tDs X.K C G ds)) (hs : starEach (e :: es) X.env = (false, eval e X.env) :: starEach es X.env := by rfl) : PA X (e :: es) (tDs X.K C G (d :: ds)) :=
  pa_to (pa_cons h hr hs) fun σ H Q ⟨Z, Hi, S, q⟩ => ⟨Z, Hi, S, fun v Hi1 H1 e1 h1 => ⟨Z, Hi1, S.ext e1, fun vs Hi2 H2 e2 h2 => q (v :: vs) Hi2 H2 (e1.trans e2) (.cons (dp_mono e2.up _ _ h1) h2)⟩⟩
theorem ds_starT {p : Pos} (h : PE X e (tD X.K C G (.tuple es'))) (hr : PA X es (tDs X.K C G ds)) (hs : starEach (.Starred e p :: es) X.env = (true, eval e X.env) :: starEach es X.env := by rfl) : PA X (.Starred e p :: es) (tDs X.K C G (es' ++ ds)) :=
  pa_to (pa_star h hr hs) fun σ H Q ⟨Z, Hi, S, q⟩ => ⟨Z, Hi, S, fun v Hi1 H1 e1 h1 => by
    obtain ⟨a, vs, rfl, hs, ha⟩ := dp_tup h1
    exact ⟨a, vs, rfl, .inl (same_t e1.sub hs), Z, Hi1, S.ext e1, fun ws Hi2 H2 e2 h2 => q (vs ++ ws) Hi2 H2 (e1.trans e2) (dps_app (dps_mono e2.up _ _ ha) h2)⟩⟩
theorem ds_starL {p : Pos} (h : PE X e (tD X.K C G (.list es'))) (hr : PA X es (tDs X.K C G ds)) (hs : starEach (.Starred e p :: es) X.env = (true, eval e X.env) :: starEach es X.env := by rfl) : PA X (.Starred e p :: es) (tDs X.K C G (es' ++ ds)) :=
  pa_to (pa_star h hr hs) fun σ H Q ⟨Z, Hi, S, q⟩ => ⟨Z, Hi, S, fun v Hi1 H1 e1 h1 => by
    obtain ⟨a, vs, rfl, hs, ha⟩ := dp_lst h1
    exact ⟨a, vs, rfl, .inr (e1.sub.seq hs), Z, Hi1, S.ext e1, fun ws Hi2 H2 e2 h2 => q (vs ++ ws) Hi2 H2 (e1.trans e2) (dps_app (dps_mono e2.up _ _ ha) h2)⟩⟩
/-- a new tuple, a new list of data -/
theorem new_tup {K : PySem.W.Frag} {Hi H : Hp} {vs : List V} {p : Addr} (s : Same Hi H) (h : DpAll K Hi vs ds) (hp : H p = none) : Dp K (upd Hi p (.tup vs)) (.ref p) (.tuple ds) :=
  .tup (SqT.of upd_same) (dps_mono (same_new (s.free hp)) _ _ h)
theorem new_lst {K : PySem.W.Frag} {Hi H : Hp} {vs : List V} {p : Addr} (s : Same Hi H) (h : DpAll K Hi vs ds) (hp : H p = none) : Dp K (upd Hi p (.lst vs)) (.ref p) (.list ds) :=
  .lst (SqL.of upd_same) (dps_mono (same_new (s.free hp)) _ _ h)
theorem pd_tup {n : Nat} (h : PA X es (tDs X.K C G ds)) (hl : ds.length ≤ sizeLine) : PE X (.Tuple es n pos) (tD X.K C G (.tuple ds)) :=
  pe_to (pe_tup h) fun σ H Q ⟨Z, Hi, S, q⟩ => ⟨Z, Hi, S, fun vs Hi1 H1 e1 h1 => ⟨by rw [dps_len h1]; exact hl, fun p hp => q _ _ _ (e1.trans (Ext.one e1.sub hp)) (new_tup e1.sub h1 hp)⟩⟩
theorem pd_lst (h : PA X es (tDs X.K C G ds)) (hl : ds.length ≤ sizeLine) : PE X (.List es pos) (tD X.K C G (.list ds)) :=
  pe_to (pe_lst h) fun σ H Q ⟨Z, Hi, S, q⟩ => ⟨Z, Hi, S, fun vs Hi1 H1 e1 h1 => ⟨by rw [dps_len h1]; exact hl, fun p hp => q _ _ _ (e1.trans (Ext.one e1.sub hp)) (new_lst e1.sub h1 hp)⟩⟩

/-! ### calls of built-ins, over data -/
/-- what a built-in gives on data -/
def CallD (K : PySem.W.Frag) (r : List V → Hp → VK → Prop) (ds : List PyData) (d : PyData) : Prop := ∀ (Hi H : Hp) (vs : List V) (Q : VK), Same Hi H → DpAll K Hi vs ds → (∀ v Hi' H', Ext Hi H Hi' H' → Dp K Hi' v d → Q v H') → r vs H Q
theorem tCB_D {r : List V → Hp → VK → Prop} (h : CallD X.K r ds d) : ∀ σ H Q, tD X.K C G d σ H Q → tCB r (tDs X.K C G ds) σ H Q := fun σ H Q ⟨Z, Hi, S, q⟩ =>
  ⟨Z, Hi, S, fun vs Hi1 H1 e1 h1 => h Hi1 H1 vs Q e1.sub h1 fun v Hi2 H2 e2 h2 => q v Hi2 H2 (e1.trans e2) h2⟩
theorem pd_callB {r : List V → Hp → VK → Prop} {id : String} {x : Str} {p : Pos} (hc : CallR X (.builtin id) r) (hm : X.mg x = none) (hv : bootBuiltins x = some (.builtin id)) (ha : PA X (e :: es) (tDs X.K C G ds)) (h : CallD X.K r ds d) (hg : Gl X x := by rfl)
    (hn : x ≠ "__name__" := by decide) (hd : (x == ("__debug__" : Str)) = false := by decide) (he : starEach (e :: es) X.env = (false, eval e X.env) :: starEach es X.env := by rfl) (hpl : (backTo pos (starEach es X.env)).any (·.1) = false := by rfl) :
    PE X (.Call (.Name x p) (e :: es) [] pos) (tD X.K C G d) := pe_to (pe_callB hc hg hm hv ha hn hd he hpl) (tCB_D h)
theorem pd_callTy {r : List V → Hp → VK → Prop} {T : String} {x : Str} {p : Pos} (hc : CallR X (.type T) r) (hm : X.mg x = none) (hv : bootBuiltins x = some (.type T)) (ha : PA X (e :: es) (tDs X.K C G ds)) (h : CallD X.K r ds d) (hg : Gl X x := by rfl)
    (hn : x ≠ "__name__" := by decide) (hd : (x == ("__debug__" : Str)) = false := by decide) (he : starEach (e :: es) X.env = (false, eval e X.env) :: starEach es X.env := by rfl) (hpl : (backTo pos (starEach es X.env)).any (·.1) = false := by rfl) :
    PE X (.Call (.Name x p) (e :: es) [] pos) (tD X.K C G d) := pe_to (pe_callTy hc hg hm hv ha hn hd he hpl) (tCB_D h)
end
end NL
set_option maxHeartbeats 2000000
/-! The layer's rules: places, slices, built-ins, what is walked, comprehensions. -/
namespace NL
open PySem PySem.Spec PyProof.Rows L2 StX
section
variable {X : Cx} {C : Addr} {G : List SK} {a b c e : Expr} {es : List Expr} {pos p2 : Pos} {d d1 d2 d3 : PyData} {ds es' : List PyData} {k1 k2 : Bool} {i : Int}

/-! ### places, slices -/
theorem opd_ixT {K : PySem.W.Frag} (h : atI ds i = some d) : OpD K (rIxT K) (.tuple ds) (.int i) d := fun Hi H x y Q s h1 h2 q => by
  obtain ⟨p, vs, rfl, hs, ha⟩ := dp_tup h1
  obtain ⟨v, hv, hd⟩ := dps_atI ha h
  exact ⟨p, vs, i, v, rfl, dp_int h2, same_t s hs, hv, q v Hi H (Ext.refl s) hd⟩
theorem opd_ixL {K : PySem.W.Frag} (h : atI ds i = some d) : OpD K (rIxL K) (.list ds) (.int i) d := fun Hi H x y Q s h1 h2 q => by
  obtain ⟨p, vs, rfl, hs, ha⟩ := dp_lst h1
  obtain ⟨v, hv, hd⟩ := dps_atI ha h
  exact ⟨p, vs, i, v, rfl, dp_int h2, s.seq hs, hv, q v Hi H (Ext.refl s) hd⟩
theorem pd_ixT (ha : PE X a (tD X.K C G (.tuple ds))) (hb : PE X b (tD X.K C G (.int i))) (h : atI ds i = some d) (hp : PlainIx b := by exact fun _ _ => rfl) : PE X (.Subscript a b pos) (tD X.K C G d) :=
  pe_to (pe_ix ix_tup ha hb hp) fun σ H Q hw => t2D (opd_ixT h) hw (fun _ _ z => z) (fun _ _ z => z)
theorem pd_ixL (ha : PE X a (tD X.K C G (.list ds))) (hb : PE X b (tD X.K C G (.int i))) (h : atI ds i = some d) (hp : PlainIx b := by exact fun _ _ => rfl) : PE X (.Subscript a b pos) (tD X.K C G d) :=
  pe_to (pe_ix ix_list ha hb hp) fun σ H Q hw => t2D (opd_ixL h) hw (fun _ _ z => z) (fun _ _ z => z)
def tDO (K : PySem.W.Frag) (C : Addr) (G : List SK) (o : Option Int) : TO := fun σ H Q => ∃ Z Hi, SlotsOk K C Z Hi H σ G ∧ ∀ Hi' H', Ext Hi H Hi' H' → Q o H'
theorem po_to {e : Option Expr} {t t' : TO} (h : PO X e t) (m : ∀ σ H Q, t' σ H Q → t σ H Q) : PO X e t' := ⟨fun pins s σ H Q I hw => h.run pins s σ H Q I (m _ _ _ hw)⟩
theorem do_none : PO X none (tDO X.K C G none) := po_to po_none fun σ H Q ⟨Z, Hi, S, q⟩ => q Hi H (Ext.refl S.sub)
theorem do_some (h : PE X e (tD X.K C G (.int i))) : PO X (some e) (tDO X.K C G (some i)) := po_to (po_some h) fun σ H Q ⟨Z, Hi, S, q⟩ => ⟨Z, Hi, S, fun v Hi1 H1 e1 h1 => ⟨i, dp_int h1, q Hi1 H1 e1⟩⟩
theorem tSl_D {r : V → Option Int → Option Int → Hp → VK → Prop} {lo hi : Option Int} (h : ∀ (Hi H : Hp) (x : V) (Q : VK), Same Hi H → Dp X.K Hi x d1 → (∀ v Hi' H', Ext Hi H Hi' H' → Dp X.K Hi' v d → Q v H') → r x lo hi H Q) :
    ∀ σ H Q, tD X.K C G d σ H Q → tSl r (tD X.K C G d1) (tDO X.K C G lo) (tDO X.K C G hi) σ H Q := fun σ H Q ⟨Z, Hi, S, q⟩ =>
  ⟨Z, Hi, S, fun x Hi1 H1 e1 h1 => ⟨Z, Hi1, S.ext e1, fun Hi2 H2 e2 => ⟨Z, Hi2, (S.ext e1).ext e2, fun Hi3 H3 e3 => h Hi3 H3 x Q e3.sub (dp_mono (e2.trans e3).up _ _ h1) fun v Hi4 H4 e4 h4 => q v Hi4 H4 (((e1.trans e2).trans e3).trans e4) h4⟩⟩⟩
theorem pd_slL {lo hi : Option Expr} {l h : Option Int} (he : PE X e (tD X.K C G (.list ds))) (hl : PO X lo (tDO X.K C G l)) (hu : PO X hi (tDO X.K C G h)) : PE X (.Subscript e (.Slice lo hi none p2) pos) (tD X.K C G (.list (cutD ds l h))) :=
  pe_to (pe_slice sl_list he hl hu) (tSl_D fun Hi H x Q s h1 q => by
    obtain ⟨a, vs, rfl, hs, ha⟩ := dp_lst h1
    exact ⟨a, vs, rfl, s.seq hs, fun p hp => q _ _ _ (Ext.one s hp) (new_lst s (dps_cut _ _ ha) hp)⟩)
theorem cutD_whole {l h : Option Int} (hw : HT.sIx ds.length 0 l = 0 ∧ HT.sIx ds.length ds.length h = ds.length) : cutD ds l h = ds := by
  unfold cutD
  rw [hw.1, hw.2, List.drop_zero, Nat.sub_zero, List.take_length]
theorem pd_slT {lo hi : Option Expr} {l h : Option Int} (he : PE X e (tD X.K C G (.tuple ds))) (hl : PO X lo (tDO X.K C G l)) (hu : PO X hi (tDO X.K C G h)) : PE X (.Subscript e (.Slice lo hi none p2) pos) (tD X.K C G (.tuple (cutD ds l h))) :=
  pe_to (pe_slice sl_tupA he hl hu) (tSl_D fun Hi H x Q s h1 q => by
    obtain ⟨a, vs, rfl, hs, ha⟩ := dp_tup h1
    refine ⟨a, vs, rfl, same_t s hs, fun hw => q _ Hi H (Ext.refl s) ?_, fun _ p hp => q _ _ _ (Ext.one s hp) (new_tup s (dps_cut _ _ ha) hp)⟩
    rw [dps_len ha] at hw
    rw [cutD_whole hw]
    exact h1)
/-- tuple + tuple -/
theorem opd_catT {K : PySem.W.Frag} {es : List PyData} (hl : ds.length + es.length ≤ sizeLine) : OpD K (rCatA K) (.tuple ds) (.tuple es) (.tuple (ds ++ es)) := fun Hi H x y Q s h1 h2 q => by
  obtain ⟨p, vs, rfl, hs, ha⟩ := dp_tup h1
  obtain ⟨p2, ws, rfl, hs2, ha2⟩ := dp_tup h2
  refine ⟨p, p2, vs, ws, rfl, rfl, same_t s hs, same_t s hs2, by rw [dps_len ha, dps_len ha2]; exact hl, fun e => ?_, fun _ e => ?_, fun _ _ p' hp => ?_⟩
  · subst e
    cases ha
    exact q _ Hi H (Ext.refl s) h2
  · subst e
    cases ha2
    rw [List.append_nil] at q
    exact q _ Hi H (Ext.refl s) h1
  · exact q _ _ _ (Ext.one s hp) (new_tup s (dps_app ha ha2) hp)
theorem pd_catT {es : List PyData} (ha : PE X a (tD X.K C G (.tuple ds))) (hb : PE X b (tD X.K C G (.tuple es))) (hl : ds.length + es.length ≤ sizeLine) : PE X (.BinOp a .Add b pos) (tD X.K C G (.tuple (ds ++ es))) := pd_op op_catA ha hb (opd_catT hl)

/-! ### built-ins -/
theorem cd_lenL {K : PySem.W.Frag} : CallD K (fun xs H Q => ∃ p ys, xs = [.ref p] ∧ (SqL K H p ys ∨ SqT K H p ys) ∧ Q (.int ys.length) H) [.list ds] (.int ds.length) := fun Hi H vs Q s h q => by
  cases h with
  | cons h1 h2 =>
    cases h2
    obtain ⟨p, ws, rfl, hs, ha⟩ := dp_lst h1
    refine ⟨p, ws, rfl, .inl (s.seq hs), ?_⟩
    rw [dps_len ha]
    exact q _ Hi H (Ext.refl s) (.int _)
theorem cd_lenT {K : PySem.W.Frag} : CallD K (fun xs H Q => ∃ p ys, xs = [.ref p] ∧ (SqL K H p ys ∨ SqT K H p ys) ∧ Q (.int ys.length) H) [.tuple ds] (.int ds.length) := fun Hi H vs Q s h q => by
  cases h with
  | cons h1 h2 =>
    cases h2
    obtain ⟨p, ws, rfl, hs, ha⟩ := dp_tup h1
    refine ⟨p, ws, rfl, .inr (same_t s hs), ?_⟩
    rw [dps_len ha]
    exact q _ Hi H (Ext.refl s) (.int _)
section
variable {q : Pos}
theorem pd_lenL (hm : X.mg "len" = none) (ha : PE X a (tD X.K C G (.list ds))) (hg : Gl X "len" := by rfl) (he : starEach [a] X.env = (false, eval a X.env) :: starEach [] X.env := by rfl) : PE X (.Call (.Name "len" q) [a] [] pos) (tD X.K C G (.int ds.length)) :=
  pd_callB call_len_seq hm PySem.boot_len (ds_cons ha ds_nil he) cd_lenL hg (by decide) (by decide) he (by rfl)
theorem pd_lenT (hm : X.mg "len" = none) (ha : PE X a (tD X.K C G (.tuple ds))) (hg : Gl X "len" := by rfl) (he : starEach [a] X.env = (false, eval a X.env) :: starEach [] X.env := by rfl) : PE X (.Call (.Name "len" q) [a] [] pos) (tD X.K C G (.int ds.length)) :=
  pd_callB call_len_seq hm PySem.boot_len (ds_cons ha ds_nil he) cd_lenT hg (by decide) (by decide) he (by rfl)
theorem pd_intC (hm : X.mg "int" = none) (ha : PE X a (tD X.K C G (.int i))) (hg : Gl X "int" := by rfl) (he : starEach [a] X.env = (false, eval a X.env) :: starEach [] X.env := by rfl) : PE X (.Call (.Name "int" q) [a] [] pos) (tD X.K C G (.int i)) :=
  pd_callTy call_int1 hm (by decide +kernel) (ds_cons ha ds_nil he) (fun Hi H vs Q s h q => by
    cases h with
    | cons h1 h2 =>
      cases h2
      obtain rfl := dp_int h1
      exact .inl ⟨i, rfl, q _ Hi H (Ext.refl s) (.int _)⟩) hg (by decide) (by decide) he (by rfl)
theorem pd_tupleL (hm : X.mg "tuple" = none) (ha : PE X a (tD X.K C G (.list ds))) (hg : Gl X "tuple" := by rfl) (he : starEach [a] X.env = (false, eval a X.env) :: starEach [] X.env := by rfl) : PE X (.Call (.Name "tuple" q) [a] [] pos) (tD X.K C G (.tuple ds)) :=
  pd_callTy call_tuple_of hm (by decide +kernel) (ds_cons ha ds_nil he) (fun Hi H vs Q s h q => by
    cases h with
    | cons h1 h2 =>
      cases h2
      obtain ⟨p, ws, rfl, hs, ha⟩ := dp_lst h1
      exact ⟨p, ws, rfl, .inl ⟨s.seq hs, fun l hl => q _ _ _ (Ext.one s hl) (new_tup s ha hl)⟩⟩) hg (by decide) (by decide) he (by rfl)
theorem pd_listL (hm : X.mg "list" = none) (ha : PE X a (tD X.K C G (.list ds))) (hg : Gl X "list" := by rfl) (he : starEach [a] X.env = (false, eval a X.env) :: starEach [] X.env := by rfl) : PE X (.Call (.Name "list" q) [a] [] pos) (tD X.K C G (.list ds)) :=
  pd_callTy call_list_of hm (by decide +kernel) (ds_cons ha ds_nil he) (fun Hi H vs Q s h q => by
    cases h with
    | cons h1 h2 =>
      cases h2
      obtain ⟨p, ws, rfl, hs, ha⟩ := dp_lst h1
      exact ⟨p, ws, rfl, .inl (s.seq hs), fun l hl => q _ _ _ (Ext.one s hl) (new_lst s ha hl)⟩) hg (by decide) (by decide) he (by rfl)
theorem pd_all {bs : List Bool} (hc : X.calm = true) (hm : X.mg "all" = none) (ha : PE X a (tD X.K C G (.list (bs.map .bool)))) (hg : Gl X "all" := by rfl) (he : starEach [a] X.env = (false, eval a X.env) :: starEach [] X.env := by rfl) : PE X (.Call (.Name "all" q) [a] [] pos) (tD X.K C G (.bool (bs.all id))) :=
  pd_callB (cr_all hc) hm (by decide +kernel) (ds_cons ha ds_nil he) (fun Hi H vs Q s h q => by
    cases h with
    | cons h1 h2 =>
      cases h2
      obtain ⟨p, ws, rfl, hs, ha⟩ := dp_lst h1
      obtain rfl := dps_bools ha
      exact ⟨p, bs, rfl, s.seq hs, q _ Hi H (Ext.refl s) (.bl _)⟩) hg (by decide) (by decide) he (by rfl)
theorem pd_min2 {j : Int} (hc : X.calm = true) (hm : X.mg "min" = none) (ha : PE X a (tD X.K C G (.int i))) (hb : PE X b (tD X.K C G (.int j))) (hg : Gl X "min" := by rfl) (he : starEach [a, b] X.env = (false, eval a X.env) :: starEach [b] X.env := by rfl) (he2 : starEach [b] X.env = (false, eval b X.env) :: starEach [] X.env := by rfl)
    (hpl : (backTo pos (starEach [b] X.env)).any (·.1) = false := by rfl) : PE X (.Call (.Name "min" q) [a, b] [] pos) (tD X.K C G (.int (if j < i then j else i))) :=
  pd_callB (call_min2 hc) hm (by decide +kernel) (ds_cons ha (ds_cons hb ds_nil he2) he) (fun Hi H vs Q s h q => by
    cases h with
    | cons h1 h2 =>
      cases h2 with
      | cons h2 h3 =>
        cases h3
        obtain rfl := dp_int h1
        obtain rfl := dp_int h2
        exact ⟨i, j, rfl, q _ Hi H (Ext.refl s) (.int _)⟩) hg (by decide) (by decide) he hpl
/-- isinstance(e, T) -/
def dTy : PyData → String
  | .none => "NoneType"
  | .bool _ => "bool"
  | .int _ => "int"
  | .str _ => "str"
  | .list _ => "list"
  | .tuple _ => "tuple"
  | .dict _ => "dict"
theorem dp_ty {K : PySem.W.Frag} {H : Hp} {v : V} (h : Dp K H v d) : TyX K H v (.type (dTy d)) := by
  cases h with
  | non => exact .base .non
  | bl b => exact .base (.bl b)
  | int i => exact .base (.int i)
  | str x => exact .base (.str x)
  | lst hs _ =>
    rcases hs with (h | ⟨o, h⟩) | ⟨o, its, n, h, hc, _⟩
    · exact .base (.lst h)
    · exact .base (.frz h)
    · exact .kList h hc
  | tup hs _ =>
    rcases hs with (h | ⟨o, h⟩) | ⟨o, its, n, h, hc, _⟩
    · exact .base (.tup h)
    · exact .fTuple h
    · exact .kTuple h hc
def tIsi (K : PySem.W.Frag) (t : TA) : TE := tCB (rIsi K) t
theorem pd_isi {T : Str} {n : String} {r1 : Pos} (hm : X.mg "isinstance" = none) (hmT : X.mg T = none) (hvT : bootBuiltins T = some (.type n)) (ha : PE X a (tD X.K C G d)) (hk : kitB (dTy d) n = some k1) (hg : Gl X "isinstance" := by rfl) (hgT : Gl X T := by rfl)
    (hnT : T ≠ "__name__" := by decide) (hdT : (T == ("__debug__" : Str)) = false := by decide) (he : starEach [a, .Name T r1] X.env = (false, eval a X.env) :: starEach [.Name T r1] X.env := by rfl) (he2 : starEach [.Name T r1] X.env = (false, eval (.Name T r1) X.env) :: starEach [] X.env := by rfl)
    (hpl : (backTo pos (starEach [.Name T r1] X.env)).any (·.1) = false := by rfl) : PE X (.Call (.Name "isinstance" q) [a, .Name T r1] [] pos) (tD X.K C G (.bool k1)) :=
  pe_to (pe_callB call_isi hg hm (by decide +kernel) (pa_cons ha (pa_cons (pe_bltn (v := .ty n) hgT hmT hvT rfl hnT hdT) pa_nil he2) he) (by decide) (by decide) he hpl) fun σ H Q ⟨Z, Hi, S, q⟩ =>
    ⟨Z, Hi, S, fun v Hi1 H1 e1 h1 => ⟨v, .ty n, _, _, k1, rfl, .ty n, dp_ty (dp_mono e1.sub _ _ h1), kit_ty hk, q _ Hi1 H1 e1 (.bl _)⟩⟩
end

/-! ### what is walked -/
structure WalkD (K : PySem.W.Frag) (J : It) (ds : List PyData) (Hi1 : Hp) : Prop where
  goes : ∀ (i : Nat) (H : Hp), i < ds.length → Same Hi1 H → J.go i H
  stops : ∀ H : Hp, Same Hi1 H → J.stop ds.length H
  yields : ∀ (i : Nat) (H Hi : Hp) (x : V) (H' : Hp), i < ds.length → Same Hi1 Hi → Same Hi H → J.yld i H x H' → ∃ Hi' d, ds[i]? = some d ∧ Ext Hi H Hi' H' ∧ Dp K Hi' x d
def tDI (K : PySem.W.Frag) (C : Addr) (G : List SK) (ds : List PyData) : TI := fun σ H R => ∃ Z Hi, SlotsOk K C Z Hi H σ G ∧ ∀ J Hi' H', Ext Hi H Hi' H' → WalkD K J ds Hi' → R J H'
theorem at_some {α : Type} {l : List α} {i : Nat} (h : i < l.length) : ∃ x, l[i]? = some x := ⟨l[i], List.getElem?_eq_getElem h⟩
theorem wd_list {K : PySem.W.Frag} {Hi : Hp} {p : Addr} {vs : List V} (hs : SqL K Hi p vs) (ha : DpAll K Hi vs ds) : WalkD K (Itl K p) ds Hi where
  goes := fun i H hi s => by
    obtain ⟨x, hx⟩ := at_some (l := vs) (i := i) (by rw [dps_len ha]; exact hi)
    exact ⟨vs, x, s.seq hs, hx⟩
  stops := fun H s => ⟨vs, s.seq hs, by rw [dps_len ha]; exact Nat.le_refl _⟩
  yields := fun i H Hi2 x H' hi s1 s2 y => by
    obtain ⟨rfl, h⟩ := y
    obtain ⟨d, h1, h2⟩ := dps_at ha (h vs ((s1.trans s2).seq hs))
    exact ⟨Hi2, d, h1, Ext.refl s2, dp_mono s1 _ _ h2⟩
theorem wd_tup {K : PySem.W.Frag} {Hi : Hp} {p : Addr} {vs : List V} (hs : SqT K Hi p vs) (ha : DpAll K Hi vs ds) : WalkD K (Itt K p) ds Hi where
  goes := fun i H hi s => by
    obtain ⟨x, hx⟩ := at_some (l := vs) (i := i) (by rw [dps_len ha]; exact hi)
    exact ⟨vs, x, same_t s hs, hx⟩
  stops := fun H s => ⟨vs, same_t s hs, by rw [dps_len ha]; exact Nat.le_refl _⟩
  yields := fun i H Hi2 x H' hi s1 s2 y => by
    obtain ⟨rfl, h⟩ := y
    obtain ⟨d, h1, h2⟩ := dps_at ha (h vs (same_t (s1.trans s2) hs))
    exact ⟨Hi2, d, h1, Ext.refl s2, dp_mono s1 _ _ h2⟩
def rngD (lo : Int) (n : Nat) : List PyData := (List.range n).map fun (i : Nat) => PyData.int (lo + (i : Int))
theorem rngD_len (lo : Int) (n : Nat) : (rngD lo n).length = n := by unfold rngD; rw [List.length_map, List.length_range]
theorem wd_rng {K : PySem.W.Frag} {Hi : Hp} {lo : Int} {n : Nat} : WalkD K (Itr lo n) (rngD lo n) Hi where
  goes := fun i H hi s => by rw [rngD_len] at hi; exact hi
  stops := fun H s => by rw [rngD_len]; exact Nat.le_refl n
  yields := fun i H Hi2 x H' hi s1 s2 y => by
    obtain ⟨rfl, rfl⟩ := y
    rw [rngD_len] at hi
    exact ⟨Hi2, .int (lo + i), by unfold rngD; rw [List.getElem?_map, List.getElem?_range hi]; rfl, Ext.refl s2, .int _⟩
/-- pairs with their places -/
def enumD (ds : List PyData) : List PyData := ds.mapIdx fun (i : Nat) d => .tuple [.int (i : Int), d]
theorem enumD_len (ds : List PyData) : (enumD ds).length = ds.length := by unfold enumD; rw [List.length_mapIdx]
theorem enumD_at {i : Nat} (h : ds[i]? = some d) : (enumD ds)[i]? = some (.tuple [.int (i : Int), d]) := by
  unfold enumD
  rw [List.getElem?_mapIdx, h]
  rfl
theorem pair_new {K : PySem.W.Frag} {Hi H : Hp} {T : Addr} {x y : V} (s : Same Hi H) (h1 : Dp K Hi x d1) (h2 : Dp K Hi y d2) (hT : H T = none) : Ext Hi H (upd Hi T (.tup [x, y])) (upd H T (.tup [x, y])) ∧ Dp K (upd Hi T (.tup [x, y])) (.ref T) (.tuple [d1, d2]) :=
  ⟨Ext.one s hT, new_tup s (.cons h1 (.cons h2 .nil)) hT⟩
theorem wd_enumL {K : PySem.W.Frag} {Hi : Hp} {p : Addr} {vs : List V} (hs : SqL K Hi p vs) (ha : DpAll K Hi vs ds) : WalkD K (Ite K p) (enumD ds) Hi where
  goes := fun i H hi s => by
    rw [enumD_len] at hi
    obtain ⟨x, hx⟩ := at_some (l := vs) (i := i) (by rw [dps_len ha]; exact hi)
    exact ⟨vs, x, s.seq hs, hx⟩
  stops := fun H s => ⟨vs, s.seq hs, by rw [dps_len ha, enumD_len]; exact Nat.le_refl _⟩
  yields := fun i H Hi2 x H' hi s1 s2 y => by
    obtain ⟨T, z, rfl, hT, rfl, h⟩ := y
    obtain ⟨d, h1, h2⟩ := dps_at ha (h vs ((s1.trans s2).seq hs))
    obtain ⟨q1, q2⟩ := pair_new s2 (.int (i : Int)) (dp_mono s1 _ _ h2) hT
    exact ⟨_, _, enumD_at h1, q1, q2⟩
/-- pairs of two lists of one length -/
def zipD (ds es : List PyData) : List PyData := (ds.zip es).map fun p => .tuple [p.1, p.2]
theorem wd_zipL {K : PySem.W.Frag} {Hi : Hp} {p q : Addr} {vs ws : List V} {es : List PyData} (hs : SqL K Hi p vs) (ha : DpAll K Hi vs ds) (hs2 : SqL K Hi q ws) (ha2 : DpAll K Hi ws es) : WalkD K (Itz K p q) (zipD ds es) Hi where
  goes := fun i H hi s => by
    unfold zipD at hi
    rw [List.length_map, List.length_zip] at hi
    obtain ⟨x, hx⟩ := at_some (l := vs) (i := i) (by rw [dps_len ha]; omega)
    obtain ⟨y, hy⟩ := at_some (l := ws) (i := i) (by rw [dps_len ha2]; omega)
    exact ⟨vs, ws, x, y, s.seq hs, s.seq hs2, hx, hy⟩
  stops := fun H s => ⟨vs, ws, s.seq hs, s.seq hs2, by rw [dps_len ha, dps_len ha2]; unfold zipD; rw [List.length_map, List.length_zip]; omega⟩
  yields := fun i H Hi2 x H' hi s1 s2 y => by
    obtain ⟨T, z1, z2, rfl, hT, rfl, h, h'⟩ := y
    obtain ⟨e1, h1, h2⟩ := dps_at ha (h vs ((s1.trans s2).seq hs))
    obtain ⟨e2, h3, h4⟩ := dps_at ha2 (h' ws ((s1.trans s2).seq hs2))
    obtain ⟨q1, q2⟩ := pair_new s2 (dp_mono s1 _ _ h2) (dp_mono s1 _ _ h4) hT
    refine ⟨_, _, ?_, q1, q2⟩
    unfold zipD
    rw [List.getElem?_map, (List.getElem?_zip_eq_some (z := (e1, e2))).mpr ⟨h1, h3⟩]
    rfl
variable {tg : Expr}
theorem di_list (h : PE X e (tD X.K C G (.list ds))) : PI X tg e (tDI X.K C G ds) := pi_to (pi_list h) fun σ H R ⟨Z, Hi, S, q⟩ => ⟨Z, Hi, S, fun v Hi1 H1 e1 h1 => by
  obtain ⟨p, vs, rfl, hs, ha⟩ := dp_lst h1
  exact ⟨p, rfl, ⟨vs, e1.sub.seq hs⟩, q _ Hi1 H1 e1 (wd_list hs ha)⟩⟩
theorem di_tup (h : PE X e (tD X.K C G (.tuple ds))) : PI X tg e (tDI X.K C G ds) := pi_to (pi_tup h) fun σ H R ⟨Z, Hi, S, q⟩ => ⟨Z, Hi, S, fun v Hi1 H1 e1 h1 => by
  obtain ⟨p, vs, rfl, hs, ha⟩ := dp_tup h1
  exact ⟨p, rfl, ⟨vs, same_t e1.sub hs⟩, q _ Hi1 H1 e1 (wd_tup hs ha)⟩⟩
theorem di_rng1 {q : Pos} (hm : X.mg "range" = none) (h : PE X a (tD X.K C G (.int i))) (hb : -(2 ^ 62) ≤ i ∧ i < 2 ^ 62) (hg : Gl X "range" := by rfl) (he : starEach [a] X.env = [(false, eval a X.env)] := by rfl) : PI X tg (.Call (.Name "range" q) [a] [] pos) (tDI X.K C G (rngD 0 i.toNat)) :=
  pi_to (pi_range1 hg hm (pa_cons h pa_nil he) he) fun σ H R ⟨Z, Hi, S, q⟩ => ⟨Z, Hi, S, fun v Hi1 H1 e1 h1 => ⟨i, by rw [dp_int h1], hb.1, hb.2, q _ Hi1 H1 e1 wd_rng⟩⟩
theorem di_rng2 {q : Pos} {j : Int} (hm : X.mg "range" = none) (h : PE X a (tD X.K C G (.int i))) (h2 : PE X b (tD X.K C G (.int j))) (hb : -(2 ^ 62) ≤ i ∧ i < 2 ^ 62 ∧ -(2 ^ 62) ≤ j ∧ j < 2 ^ 62) (hg : Gl X "range" := by rfl) (he : starEach [a, b] X.env = [(false, eval a X.env), (false, eval b X.env)] := by rfl)
    (he2 : starEach [b] X.env = [(false, eval b X.env)] := by rfl) : PI X tg (.Call (.Name "range" q) [a, b] [] pos) (tDI X.K C G (rngD i (j - i).toNat)) :=
  pi_to (pi_range2 hg hm (pa_cons h (pa_cons h2 pa_nil he2) (by rw [he, he2])) he he2) fun σ H R ⟨Z, Hi, S, q⟩ => ⟨Z, Hi, S, fun v Hi1 H1 e1 h1 => ⟨Z, Hi1, S.ext e1, fun w Hi2 H2 e2 h2 =>
    ⟨i, j, by rw [dp_int h1, dp_int h2], hb, q _ Hi2 H2 (e1.trans e2) wd_rng⟩⟩⟩
theorem di_enumL {q tp : Pos} {elts : List Expr} {kk : Nat} (hm : X.mg "enumerate" = none) (h : PE X a (tD X.K C G (.list ds))) (hg : Gl X "enumerate" := by rfl) (he : starEach [a] X.env = [(false, eval a X.env)] := by rfl) : PI X (.Tuple elts kk tp) (.Call (.Name "enumerate" q) [a] [] pos) (tDI X.K C G (enumD ds)) :=
  pi_to (pi_enum hg hm (pa_cons h pa_nil he) he) fun σ H R ⟨Z, Hi, S, q⟩ => ⟨Z, Hi, S, fun v Hi1 H1 e1 h1 => by
    obtain ⟨p, vs, rfl, hs, ha⟩ := dp_lst h1
    exact ⟨p, vs, rfl, e1.sub.seq hs, q _ Hi1 H1 e1 (wd_enumL hs ha)⟩⟩
theorem di_zipL {q tp : Pos} {elts : List Expr} {kk : Nat} {es : List PyData} (hm : X.mg "zip" = none) (h : PE X a (tD X.K C G (.list ds))) (h2 : PE X b (tD X.K C G (.list es))) (hg : Gl X "zip" := by rfl) (he : starEach [a, b] X.env = (false, eval a X.env) :: starEach [b] X.env := by rfl)
    (he2 : starEach [b] X.env = (false, eval b X.env) :: starEach [] X.env := by rfl) (hpl : (backTo pos (starEach [b] X.env)).any (·.1) = false := by rfl) : PI X (.Tuple elts kk tp) (.Call (.Name "zip" q) [a, b] [] pos) (tDI X.K C G (zipD ds es)) :=
  pi_to (pi_zip hg hm (pa_cons h (pa_cons h2 pa_nil he2) he) he hpl) fun σ H R ⟨Z, Hi, S, q⟩ => ⟨Z, Hi, S, fun v Hi1 H1 e1 h1 => ⟨Z, Hi1, S.ext e1, fun w Hi2 H2 e2 h2 => by
    obtain ⟨p, vs, rfl, hs, ha⟩ := dp_lst (dp_mono e2.up _ _ h1)
    obtain ⟨p2, ws, rfl, hs2, ha2⟩ := dp_lst h2
    exact ⟨p, p2, vs, ws, rfl, e2.sub.seq hs, e2.sub.seq hs2, q _ Hi2 H2 (e1.trans e2) (wd_zipL hs ha hs2 ha2)⟩⟩⟩

/-! ### targets -/
inductive Pt where
  | nm (i : Nat)
  | pr (i j : Nat)
def gPt (K : PySem.W.Frag) : Pt → TG
  | .nm i => gName i
  | .pr i j => gTup K 2 (gCons (gName i) (gCons (gName j) gNil))
inductive BindG : Pt → PyData → List SK → List SK → Prop
  | nm {i : Nat} {d : PyData} {G : List SK} : BindG (.nm i) d G (G.set i (.dat d))
  | pr {i j : Nat} {d1 d2 : PyData} {G : List SK} : BindG (.pr i j) (.tuple [d1, d2]) G ((G.set i (.dat d1)).set j (.dat d2))
theorem g_bind {K : PySem.W.Frag} {Z Hi H : Hp} {σ : L2.St} {pt : Pt} {v : V} {G' : List SK} {Q : L2.St → Hp → Prop} (S : SlotsOk K C Z Hi H σ G) (h : Dp K Hi v d) (hb : BindG pt d G G') (q : ∀ σ', SlotsOk K C Z Hi H σ' G' → Q σ' H) : gPt K pt v σ H Q := by
  cases hb with
  | nm => exact q _ (S.setD h)
  | pr =>
    obtain ⟨p, vs, rfl, hs, ha⟩ := dp_tup h
    cases ha with
    | cons h1 h2 =>
      cases h2 with
      | cons h2 h3 =>
        cases h3
        exact ⟨p, _, rfl, same_t S.sub hs, rfl, _, _, rfl, _, _, rfl, rfl, q _ ((S.setD h1).setD h2)⟩
theorem pg_nm (i : Nat) {x : Str} (hN : X.N.Nodup) (hi : X.N[i]? = some x := by rfl) (hx : Loc X.env.scope x := by first | exact Or.inl rfl | exact Or.inr rfl) (hf : X.fn x = true ∨ X.env.scope.names.lookup x = some .local := by first | exact .inl rfl | exact .inr rfl) : PG X (.Name x pos) (gPt X.K (.nm i)) := pg_name hN hi hx hf
theorem pg_pr (i j : Nat) {x y : Str} {q1 q2 : Pos} {kk : Nat} (hc : X.calm = true) (hN : X.N.Nodup) (hi : X.N[i]? = some x := by rfl) (hj : X.N[j]? = some y := by rfl) (hx : Loc X.env.scope x := by first | exact Or.inl rfl | exact Or.inr rfl) (hy : Loc X.env.scope y := by first | exact Or.inl rfl | exact Or.inr rfl)
    (hf : X.fn x = true ∨ X.env.scope.names.lookup x = some .local := by first | exact .inl rfl | exact .inr rfl) (hg : X.fn y = true ∨ X.env.scope.names.lookup y = some .local := by first | exact .inl rfl | exact .inr rfl) : PG X (.Tuple [.Name x q1, .Name y q2] kk pos) (gPt X.K (.pr i j)) :=
  pg_tup hc (pgs_cons (pg_name hN hi hx hf) (pgs_cons (pg_name hN hj hy hg) pgs_nil))
end
end NL
set_option maxHeartbeats 2000000
/-! The layer's rules: comprehensions, statements, defs and their calls. -/
namespace NL
open PySem PySem.Spec PyProof.Rows L2 StX
theorem wipe_in {σ : L2.St} {i : Nat} : ∀ {vs : List Nat}, i ∈ vs → i < σ.length → (wipe σ vs)[i]? = some none
  | [], h, _ => by cases h
  | v :: vs, h, hl => by
    unfold wipe
    by_cases e : v = i
    · subst e
      rw [List.getElem?_set_self (by rw [wipe_length]; exact hl)]
    · rw [List.getElem?_set_ne e]
      rcases List.mem_cons.mp h with q | q
      · exact absurd q.symm e
      · exact wipe_in q hl
theorem wipe_ext {σ σ' : L2.St} {vs : List Nat} (hl : σ.length = σ'.length) (h : ∀ i, i ∉ vs → σ[i]? = σ'[i]?) : wipe σ vs = wipe σ' vs := by
  refine List.ext_getElem? fun i => ?_
  by_cases hi : i ∈ vs
  · by_cases hb : i < σ.length
    · rw [wipe_in hi hb, wipe_in hi (hl ▸ hb)]
    · rw [List.getElem?_eq_none (by rw [wipe_length]; omega), List.getElem?_eq_none (by rw [wipe_length]; omega)]
  · rw [wipe_out hi, wipe_out hi]
    exact h i hi
theorem wipe_set {σ : L2.St} {vs : List Nat} {i : Nat} {x : Option V} (hi : i ∈ vs) : wipe ((wipe σ vs).set i x) vs = wipe σ vs :=
  wipe_ext (by rw [List.length_set, wipe_length]) fun k hk => by
    rw [List.getElem?_set_ne (fun e => hk (by rw [← e]; exact hi)), wipe_out hk]
theorem wipe_set2 {σ : L2.St} {vs : List Nat} {i j : Nat} {x y : Option V} (hi : i ∈ vs) (hj : j ∈ vs) : wipe (((wipe σ vs).set i x).set j y) vs = wipe σ vs :=
  wipe_ext (by rw [List.length_set, List.length_set, wipe_length]) fun k hk => by
    rw [List.getElem?_set_ne (fun e => hk (by rw [← e]; exact hj)), List.getElem?_set_ne (fun e => hk (by rw [← e]; exact hi)), wipe_out hk]
def wipeG (G : List SK) : List Nat → List SK
  | [] => G
  | v :: vs => (wipeG G vs).set v .un
def Pt.ins (vs : List Nat) : Pt → Prop
  | .nm i => i ∈ vs
  | .pr i j => i ∈ vs ∧ j ∈ vs
section
variable {K : PySem.W.Frag} {C : Addr} {Z Hi H : Hp} {σ : L2.St} {G : List SK}
theorem SlotsOk.wipe (S : SlotsOk K C Z Hi H σ G) : ∀ vs, SlotsOk K C Z Hi H (L2.wipe σ vs) (wipeG G vs)
  | [] => S
  | v :: vs => (SlotsOk.wipe S vs).set rfl trivial
/-- a target within a comprehension -/
theorem g_bindW {pt : Pt} {v : V} {d : PyData} {G' : List SK} {vs : List Nat} {Q : L2.St → Hp → Prop} (S : SlotsOk K C Z Hi H σ G) (h : Dp K Hi v d) (hv : pt.ins vs) (hb : BindG pt d (wipeG G vs) G') (q : ∀ σ', SlotsOk K C Z Hi H σ' G' → L2.wipe σ' vs = L2.wipe σ vs → Q σ' H) : gPt K pt v (L2.wipe σ vs) H Q := by
  have S2 := S.wipe vs
  cases hb with
  | nm => exact q _ (S2.setD h) (wipe_set hv)
  | pr =>
    obtain ⟨p, ws, rfl, hs, ha⟩ := dp_tup h
    cases ha with
    | cons h1 h2 =>
      cases h2 with
      | cons h2 h3 =>
        cases h3
        exact ⟨p, _, rfl, same_t S.sub hs, rfl, _, _, rfl, _, _, rfl, rfl, q _ ((S2.setD h1).setD h2) (wipe_set2 hv.1 hv.2)⟩
end
section
variable {X : Cx} {C : Addr} {G : List SK} {a b c e : Expr} {es : List Expr} {pos p2 : Pos} {d d1 d2 d3 : PyData} {ds : List PyData} {k1 k2 : Bool} {i : Int} {tg iter elt : Expr}
theorem di_is {ds' : List PyData} (h : PI X tg iter (tDI X.K C G ds)) (e : ds = ds') : PI X tg iter (tDI X.K C G ds') := e ▸ h
theorem enumD_map {α : Type} (xs : List α) (enc : α → PyData) : enumD (xs.map enc) = xs.zipIdx.map fun p => .tuple [.int (p.2 : Int), enc p.1] := by
  unfold enumD
  refine List.ext_getElem? fun i => ?_
  rw [List.getElem?_mapIdx, List.getElem?_map, List.getElem?_map, List.getElem?_zipIdx]
  cases xs[i]? with
  | none => rfl
  | some x =>
    show some _ = some _
    rw [Nat.zero_add]
theorem zipD_map {α β : Type} (xs : List α) (ys : List β) (e1 : α → PyData) (e2 : β → PyData) : zipD (xs.map e1) (ys.map e2) = (xs.zip ys).map fun p => .tuple [e1 p.1, e2 p.2] := by
  unfold zipD
  rw [List.zip_map, List.map_map]
  rfl
theorem take_filter_map {α β : Type} {xs : List α} {i : Nat} {x : α} (b : α → Bool) (f : α → β) (h : xs[i]? = some x) : ((xs.take (i + 1)).filter b).map f = ((xs.take i).filter b).map f ++ (if b x = true then [f x] else []) := by
  rw [List.take_add_one, h, List.filter_append, List.map_append]
  congr 1
  show (List.filter b [x]).map f = _
  by_cases hb : b x = true
  · rw [if_pos hb, List.filter_cons_of_pos hb]
    rfl
  · rw [if_neg hb, List.filter_cons_of_neg hb]
    rfl
variable {α : Type}
theorem tLc_N {J : It} {own : List Nat} {pt : Pt} {tt : TT} {te : TE} {xs : List α} {enc : α → PyData} {f : α → PyData} {tb : α → Bool} {gb : α → List SK} {Z Hi0 Hi H H0 : Hp} {σ : L2.St} {Q : VK} (S : SlotsOk X.K C Z Hi H σ G) (e0 : Ext Hi0 H0 Hi H) (w : WalkD X.K J (xs.map enc) Hi) (hz : xs.length < sizeLine) (hv : pt.ins own)
    (hb : ∀ x, x ∈ xs → BindG pt (enc x) (wipeG G own) (gb x)) (ht : ∀ σ H Q x, x ∈ xs → tDT X.K C (gb x) (tb x) σ H Q → tt σ H Q) (he : ∀ σ H Q x, x ∈ xs → tb x = true → tD X.K C (gb x) (f x) σ H Q → te σ H Q) (D : Addr) (hD : H D = none) (q : ∀ Hi' H' acc, Ext Hi0 H0 Hi' H' → H' D = some (.lst acc) → Hi' D = none → H0 D = none → DpAll X.K Hi' acc ((xs.filter tb).map f) → Q (.ref D) H') :
    ∃ W : Nat → Nat → Hp → Prop, (∃ m, W 0 m (upd H D (.lst []))) ∧ ∀ i m H, W i m H →
      (J.stop i H ∧ Q (.ref D) H) ∨ (J.go i H ∧ ∃ Nx : Hp → Prop, (∀ H', Nx H' → ∃ m', m' < m ∧ W (i + 1) m' H') ∧ ∀ x H', J.yld i H x H' → gPt X.K pt x (wipe σ own) H' fun σ2 H2 => wipe σ2 own = wipe σ own ∧ tt σ2 H2 fun b H3 =>
        if b = true then te σ2 H3 fun y H4 => ∃ acc, H4 D = some (.lst acc) ∧ acc.length < sizeLine ∧ Nx (upd H4 D (.lst (acc ++ [y]))) else Nx H3) := by
  -- the new list at D beside what stands
  let P : Nat → Hp → Prop := fun i H2 => ∃ Hi2 acc, Ext Hi0 H0 Hi2 H2 ∧ Same Hi Hi2 ∧ SlotsOk X.K C Z Hi2 H2 σ G ∧ H2 D = some (.lst acc) ∧ Hi2 D = none ∧ H0 D = none ∧ DpAll X.K Hi2 acc (((xs.take i).filter tb).map f)
  have hD0 : H0 D = none := e0.same.free hD
  refine ⟨fun i m H2 => m = xs.length - i ∧ i ≤ xs.length ∧ P i H2, ⟨xs.length, by simp, Nat.zero_le _, Hi, [], ?_, Same.refl _, S.ext (Ext.grow S.sub (same_new hD)), upd_same, S.sub.free hD, hD0, .nil⟩, ?_⟩
  · exact ⟨e0.same.trans (same_new hD), e0.up, e0.sub.trans (same_new hD), e0.new⟩
  rintro i m H2 ⟨rfl, hi, Hi2, acc, e2, s2, S2, hacc, hDi, _, hda⟩
  have hlen : acc.length ≤ i := by
    rw [dps_len hda, List.length_map]
    exact Nat.le_trans (List.length_filter_le _ _) (by rw [List.length_take]; omega)
  by_cases hlt : i < xs.length
  · obtain ⟨x, hx⟩ := at_some hlt
    have hmem : x ∈ xs := List.mem_of_getElem? hx
    refine .inr ⟨w.goes i H2 (by rw [List.length_map]; exact hlt) (s2.trans S2.sub), fun H3 => P (i + 1) H3, fun H3 p3 => ⟨xs.length - (i + 1), by omega, rfl, hlt, p3⟩, fun v H3 y => ?_⟩
    obtain ⟨Hi3, dx, h1, h2, h3⟩ := w.yields i H2 Hi2 v H3 (by rw [List.length_map]; exact hlt) s2 S2.sub y
    have hdx : dx = enc x := by
      rw [List.getElem?_map, hx] at h1
      exact (Option.some.inj h1).symm
    subst hdx
    have S3 := S2.ext h2
    refine g_bindW S3 h3 hv (hb x hmem) fun σ4 S4 hw => ⟨hw, ?_⟩
    refine ht σ4 H3 _ x hmem ⟨Z, Hi3, S4, fun Hi5 H5 e5 => ?_⟩
    have hacc5 : H5 D = some (.lst acc) := e5.same _ _ (h2.same _ _ hacc)
    have hDi5 : Hi5 D = none := (h2.trans e5).fresh hacc hDi
    have step := take_filter_map tb f hx
    show if tb x = true then te σ4 H5 fun y H4 => ∃ acc, H4 D = some (HO.lst acc) ∧ acc.length < sizeLine ∧ P (i + 1) (upd H4 D (HO.lst (acc ++ [y]))) else P (i + 1) H5
    by_cases hbx : tb x = true
    · rw [if_pos hbx]
      refine he σ4 H5 _ x hmem hbx ⟨Z, Hi5, S4.ext e5, fun y' Hi6 H6 e6 h6 => ⟨acc, e6.same _ _ hacc5, Nat.lt_of_le_of_lt hlen (Nat.lt_trans hlt hz), ?_⟩⟩
      have E : Ext Hi2 H2 Hi6 H6 := (h2.trans e5).trans e6
      have hD6 : Hi6 D = none := E.fresh hacc hDi
      have S6 := S2.ext E
      have sub6 : Same Hi6 (upd H6 D (.lst (acc ++ [y']))) := fun c o z => by
        rw [upd_ne (fun r => by rw [r, hD6] at z; cases z)]
        exact E.sub _ _ z
      refine ⟨Hi6, acc ++ [y'], ?_, s2.trans E.up, ?_, upd_same, hD6, hD0, ?_⟩
      · have E0 := e2.trans E
        exact ⟨fun c o z => by rw [upd_ne (ne_of_none z hD0)]; exact E0.same _ _ z, E0.up, sub6, E0.new⟩
      · -- the slots do not lean on D
        have noD : ∀ (j : Nat) (k : SK) (u : Addr), G[j]? = some k → Own (σ[j]?) k u → u ≠ D := fun j k u g s => by
          obtain ⟨o, q2, _⟩ := mut_at (S.ok j k g) s
          exact ne_of_none q2 hD
        refine ⟨S6.len, sub6, fun j k g => ?_, S6.inj⟩
        have z := S6.ok j k g
        have nD := fun u => noD j k u g
        have insD : ∀ {u : Addr} {dx : Addr} {fs : List (Str × V)}, H6 u = some (.ins C dx fs) → u ≠ D := fun {u dx fs} f1 => ne_of f1 (e6.same _ _ hacc5) (fun z => nomatch z)
        cases k with
        | un => trivial
        | dat d => exact z
        | pdt d => exact z
        | mls dl =>
          obtain ⟨u, vs, q1, q2, q3, q4, q5⟩ := z
          exact ⟨u, vs, q1, by rw [upd_ne (nD u q1)]; exact q2, q3, q4, q5⟩
        | mdk dl =>
          obtain ⟨u, q1, q2, q4, q5⟩ := z
          exact ⟨u, q1, by rw [upd_ne (nD u q1)]; exact q2, q4, q5⟩
        | rcv p l r =>
          obtain ⟨u, q1, q2⟩ := z
          obtain ⟨dx, fs, vl, vp, f1, f2⟩ := q2.ex
          exact ⟨u, q1, ⟨dx, fs, vl, vp, by rw [upd_ne (insD f1)]; exact f1, f2⟩⟩
        | rcm u p l r =>
          obtain ⟨q1, q2, q3, q4⟩ := z
          obtain ⟨dx, fs, vl, vp, f1, f2⟩ := q2.ex
          exact ⟨q1, ⟨dx, fs, vl, vp, by rw [upd_ne (insD f1)]; exact f1, f2⟩, q3, q4⟩
        | aml u dl =>
          obtain ⟨vs, q1, q2, q3, q4, q5⟩ := z
          exact ⟨vs, q1, by rw [upd_ne (nD u rfl)]; exact q2, q3, q4, q5⟩
        | st u l cells lefts t =>
          obtain ⟨q1, q2, q3, q4, q5, q6⟩ := z
          exact ⟨q1, q2.ext (Same.refl _) (fun o z => by rw [upd_ne (nD u (.inl rfl))]; exact z) (fun o z => by rw [upd_ne (nD l (.inr rfl))]; exact z), q3, q4, q5, q6⟩
      · rw [step, if_pos hbx]
        exact dps_app (dps_mono E.up _ _ hda) (.cons h6 .nil)
    · rw [if_neg hbx]
      have E : Ext Hi2 H2 Hi5 H5 := h2.trans e5
      refine ⟨Hi5, acc, e2.trans E, s2.trans E.up, S2.ext E, hacc5, hDi5, hD0, ?_⟩
      rw [step, if_neg hbx, List.append_nil]
      exact dps_mono E.up _ _ hda
  · have e : i = xs.length := by omega
    subst e
    refine .inl ⟨by have := w.stops H2 (s2.trans S2.sub); rw [List.length_map] at this; exact this, ?_⟩
    rw [List.take_length] at hda
    exact q Hi2 H2 acc e2 hacc hDi hD0 hda
theorem lc_frz {K : PySem.W.Frag} {D : Addr} {acc : List V} {ds : List PyData} {Hi0 H0 Hi2 H2 : Hp} {Q : VK} (e2 : Ext Hi0 H0 Hi2 H2) (hacc : H2 D = some (.lst acc)) (hDi : Hi2 D = none) (hD0 : H0 D = none) (hda : DpAll K Hi2 acc ds) (q : ∀ v Hi' H', Ext Hi0 H0 Hi' H' → Dp K Hi' v (.list ds) → Q v H') : Q (.ref D) H2 := by
  have hD2 : Same Hi2 (upd Hi2 D (.lst acc)) := same_new hDi
  refine q (.ref D) (upd Hi2 D (.lst acc)) H2 ⟨e2.same, e2.up.trans hD2, fun c o z => ?_, fun c o z => ?_⟩ (.lst (SqL.of upd_same) (dps_mono hD2 _ _ hda))
  · by_cases hc : c = D
    · rw [hc, upd_same] at z
      rw [hc, hacc]
      exact z
    · rw [upd_ne hc] at z
      exact e2.sub _ _ z
  · by_cases hc : c = D
    · exact .inr (by rw [hc]; exact hD0)
    · rw [upd_ne hc] at z
      exact e2.new _ _ z
theorem tLcAll {own : List Nat} {pt : Pt} {tt : TT} {te : TE} {xs : List α} {enc : α → PyData} {f : α → PyData} {tb : α → Bool} {gb : α → List SK} (hz : xs.length < sizeLine) (hv : pt.ins own)
    (hb : ∀ x, x ∈ xs → BindG pt (enc x) (wipeG G own) (gb x)) (ht : ∀ σ H Q x, x ∈ xs → tDT X.K C (gb x) (tb x) σ H Q → tt σ H Q) (he : ∀ σ H Q x, x ∈ xs → tb x = true → tD X.K C (gb x) (f x) σ H Q → te σ H Q) :
    ∀ σ H Q, tD X.K C G (.list ((xs.filter tb).map f)) σ H Q → tLc (tDI X.K C G (xs.map enc)) (gPt X.K pt) tt te own σ H Q := fun σ H Q ⟨Z, Hi, S, q⟩ =>
  ⟨Z, Hi, S, fun J Hi1 H1 e1 w D hD => tLc_N (S.ext e1) e1 w hz hv hb ht he D hD fun Hi' H' acc e2 h1 h2 h3 h4 => lc_frz e2 h1 h2 h3 h4 q⟩
/-- a list comprehension with its tests; xs: what is walked, enc: as data, tb: kept, f: what is made -/
theorem pd_lcT {own : List (Str × Nat)} {pt : Pt} {ifs : List Expr} {scope : Scope} (xs : List α) (enc : α → PyData) (tb : α → Bool) (f : α → PyData) {gb : α → List SK} (hc : X.calm = true) (hN : X.N.Nodup) (hi : PI X tg iter (tDI X.K C G (xs.map enc))) (ok : BlkOk X.N X.env.scope scope own)
    (hg : ∀ (s : Shared) (H : Hp) (C' : Addr) (cl : List (Str × Addr)) (fp : List Addr), PG (X.blk s H scope (compEnvC scope cl C' X.env) fp) tg (gPt X.K pt)) (hz : xs.length < sizeLine) (hv : pt.ins (own.map (·.2)))
    (hb : ∀ x, x ∈ xs → BindG pt (enc x) (wipeG G (own.map (·.2))) (gb x))
    (ht : ∀ x, x ∈ xs → ∀ (s : Shared) (H : Hp) (C' : Addr) (cl : List (Str × Addr)) (fp : List Addr), PTs (X.blk s H scope (compEnvC scope cl C' X.env) fp) ifs (tDT X.K C (gb x) (tb x)))
    (he : ∀ x, x ∈ xs → tb x = true → ∀ (s : Shared) (H : Hp) (C' : Addr) (cl : List (Str × Addr)) (fp : List Addr), PE (X.blk s H scope (compEnvC scope cl C' X.env) fp) elt (tD X.K C (gb x) (f x))) (hs : ∀ x, foldedSetIterable iter X.env x = pure x := by intro _; rfl) :
    PE X (.ListComp elt [⟨tg, iter, ifs, 0⟩] scope pos) (tD X.K C G (.list ((xs.filter tb).map f))) :=
  pe_to (pe_lc hc hN hi ok hg (fun s H C' cl fp => pts_or' (P := fun x : {x : α // x ∈ xs} => True) (t := fun x => tDT X.K C (gb x.1) (tb x.1)) fun x _ => ht x.1 x.2 s H C' cl fp)
    (fun s H C' cl fp => pe_or' (P := fun x : {x : α // x ∈ xs} => tb x.1 = true) (t := fun x => tD X.K C (gb x.1) (f x.1)) fun x hx => he x.1 x.2 hx s H C' cl fp) hs)
    (tLcAll hz hv hb (fun σ H Q x hx h => ⟨⟨x, hx⟩, trivial, h⟩) fun σ H Q x hx hb h => ⟨⟨x, hx⟩, hb, h⟩)
/-- a new list that may still change -/
def tNew (K : PySem.W.Frag) (C : Addr) (G : List SK) (ds : List PyData) : TE := fun σ H Q => ∃ Z Hi, SlotsOk K C Z Hi H σ G ∧ ∀ l vs Hi' H', Ext Hi H Hi' H' → H l = none → H' l = some (.lst vs) → Hi' l = none → DpAll K Hi' vs ds → Q (.ref l) H'
theorem filter_yes (xs : List α) : xs.filter (fun _ => true) = xs := List.filter_eq_self.mpr fun _ _ => rfl
/-- .. without tests -/
theorem pd_lc0 {own : List (Str × Nat)} {pt : Pt} {scope : Scope} (xs : List α) (enc : α → PyData) (f : α → PyData) {gb : α → List SK} (hc : X.calm = true) (hN : X.N.Nodup) (hi : PI X tg iter (tDI X.K C G (xs.map enc))) (ok : BlkOk X.N X.env.scope scope own)
    (hg : ∀ (s : Shared) (H : Hp) (C' : Addr) (cl : List (Str × Addr)) (fp : List Addr), PG (X.blk s H scope (compEnvC scope cl C' X.env) fp) tg (gPt X.K pt)) (hz : xs.length < sizeLine) (hv : pt.ins (own.map (·.2)))
    (hb : ∀ x, x ∈ xs → BindG pt (enc x) (wipeG G (own.map (·.2))) (gb x))
    (he : ∀ x, x ∈ xs → ∀ (s : Shared) (H : Hp) (C' : Addr) (cl : List (Str × Addr)) (fp : List Addr), PE (X.blk s H scope (compEnvC scope cl C' X.env) fp) elt (tD X.K C (gb x) (f x))) (hs : ∀ x, foldedSetIterable iter X.env x = pure x := by intro _; rfl) :
    PE X (.ListComp elt [⟨tg, iter, [], 0⟩] scope pos) (tD X.K C G (.list (xs.map f))) :=
  pd_is (pd_lcT xs enc (fun _ => true) f hc hN hi ok hg hz hv hb (fun x hx s H C' cl fp => pts_to pts_nil fun σ H Q ⟨Z, Hi, S, q⟩ => q Hi H (Ext.refl S.sub)) (fun x hx _ => he x hx) hs) (by rw [filter_yes])

theorem pe_lcNew {own : List (Str × Nat)} {pt : Pt} {scope : Scope} (xs : List α) (enc : α → PyData) (f : α → PyData) {gb : α → List SK} (hc : X.calm = true) (hN : X.N.Nodup) (hi : PI X tg iter (tDI X.K C G (xs.map enc))) (ok : BlkOk X.N X.env.scope scope own)
    (hg : ∀ (s : Shared) (H : Hp) (C' : Addr) (cl : List (Str × Addr)) (fp : List Addr), PG (X.blk s H scope (compEnvC scope cl C' X.env) fp) tg (gPt X.K pt)) (hz : xs.length < sizeLine) (hv : pt.ins (own.map (·.2)))
    (hb : ∀ x, x ∈ xs → BindG pt (enc x) (wipeG G (own.map (·.2))) (gb x))
    (he : ∀ x, x ∈ xs → ∀ (s : Shared) (H : Hp) (C' : Addr) (cl : List (Str × Addr)) (fp : List Addr), PE (X.blk s H scope (compEnvC scope cl C' X.env) fp) elt (tD X.K C (gb x) (f x))) (hs : ∀ x, foldedSetIterable iter X.env x = pure x := by intro _; rfl) :
    PE X (.ListComp elt [⟨tg, iter, [], 0⟩] scope pos) (tNew X.K C G (xs.map f)) :=
  pe_to (pe_lc hc hN hi ok hg (fun s H C' cl fp => pts_or' (P := fun x : {x : α // x ∈ xs} => True) (t := fun x => tDT X.K C (gb x.1) true) fun x _ => pts_to pts_nil fun σ H Q ⟨Z, Hi, S, q⟩ => q Hi H (Ext.refl S.sub))
    (fun s H C' cl fp => pe_or' (P := fun x : {x : α // x ∈ xs} => true = true) (t := fun x => tD X.K C (gb x.1) (f x.1)) fun x hx => he x.1 x.2 s H C' cl fp) hs)
    fun σ H Q ⟨Z, Hi, S, q⟩ => ⟨Z, Hi, S, fun J Hi1 H1 e1 w D hD => tLc_N (tt := fun σ H Q => ∃ i : {x : α // x ∈ xs}, True ∧ tDT X.K C (gb i.1) true σ H Q) (te := fun σ H Q => ∃ i : {x : α // x ∈ xs}, true = true ∧ tD X.K C (gb i.1) (f i.1) σ H Q) (tb := fun _ => true) (S.ext e1) e1 w hz hv hb (fun σ H Q x hx h => ⟨⟨x, hx⟩, trivial, h⟩) (fun σ H Q x hx hb h => ⟨⟨x, hx⟩, hb, h⟩) D hD fun Hi' H' acc e2 h1 h2 h3 h4 => q D acc Hi' H' e2 h3 h1 h2 (by rw [filter_yes] at h4; exact h4)⟩

/-! ### statements -/
variable {N : List SK → Prop} {R : PyData → Prop} {st : Stmt} {sts : List Stmt}
/-- slots forgotten -/
inductive Weak : List SK → List SK → Prop
  | nil : Weak [] []
  | same {k : SK} {G G' : List SK} : Weak G G' → Weak (k :: G) (k :: G')
  | un {k : SK} {G G' : List SK} : Weak G G' → Weak (k :: G) (.un :: G')
theorem Weak.len : ∀ {G G' : List SK}, Weak G G' → G.length = G'.length
  | _, _, .nil => rfl
  | _, _, .same w => by rw [List.length_cons, List.length_cons, w.len]
  | _, _, .un w => by rw [List.length_cons, List.length_cons, w.len]
theorem Weak.get : ∀ {G G' : List SK} {i : Nat} {k : SK}, Weak G G' → G'[i]? = some k → k = .un ∨ G[i]? = some k
  | _, _, _, _, .nil, h => by simp at h
  | _, _, 0, _, .same _, h => .inr h
  | _, _, 0, _, .un _, h => .inl (Option.some.inj h).symm
  | _, _, i + 1, _, .same w, h => w.get (i := i) h
  | _, _, i + 1, _, .un w, h => w.get (i := i) h
theorem Weak.refl : ∀ G : List SK, Weak G G
  | [] => .nil
  | k :: G => .same (Weak.refl G)
theorem SlotsOk.weak {K : PySem.W.Frag} {Z Hi H : Hp} {σ : L2.St} {G' : List SK} (S : SlotsOk K C Z Hi H σ G) (w : Weak G G') : SlotsOk K C Z Hi H σ G' :=
  ⟨by rw [S.len, w.len], S.sub, fun i k h => by
    rcases w.get h with rfl | h
    · trivial
    · exact S.ok i k h, fun i j k l a h1 h2 q1 q2 => by
    rcases w.get h1 with rfl | h1
    · exact q1.elim
    · rcases w.get h2 with rfl | h2
      · exact q2.elim
      · exact S.inj i j k l a h1 h2 q1 q2⟩
theorem sd_weak {G' : List SK} (h : PSs X sts (tS X.K C G' N R)) (w : Weak G G') : PSs X sts (tS X.K C G N R) := pss_to h fun D σ H ⟨Z, Hi0, Hi, f, S, q1, q2⟩ => ⟨Z, Hi0, Hi, f, S.weak w, q1, q2⟩
/-- the end of a block -/
theorem sd_end {G' : List SK} (h : N G') (w : Weak G G') : PSs X [] (tS X.K C G N R) := pss_to pss_nil fun D σ H ⟨Z, Hi0, Hi, f, S, q1, q2⟩ => q1 G' σ Hi H h (Same.refl _) f (S.weak w)
theorem sd_cons {M : List SK → Prop} (h1 : PS X st (tS X.K C G M R)) (h2 : ∀ G1, M G1 → PSs X sts (tS X.K C G1 N R)) : PSs X (st :: sts) (tS X.K C G N R) :=
  pss_to (pss_cons h1 (pss_or' (P := M) (t := fun G1 => tS X.K C G1 N R) h2)) fun D σ H ⟨Z, Hi0, Hi, f, S, q1, q2⟩ => ⟨Z, Hi0, Hi, f, S, fun G' σ' Hi' H' m s' f' S' => ⟨G', m, Z, Hi0, Hi', f', S', fun G2 σ2 Hi2 H2 n s2 => q1 G2 σ2 Hi2 H2 n (s'.trans s2), q2⟩, q2⟩
/-- one way on -/
theorem sd_seq {G1 : List SK} (h1 : PS X st (tS X.K C G (fun g => g = G1) R)) (h2 : PSs X sts (tS X.K C G1 N R)) : PSs X (st :: sts) (tS X.K C G N R) := sd_cons h1 fun _ e => e ▸ h2
/-- a statement that leaves the def by a return alone, or ends the block -/
theorem sd_last (h1 : PS X st (tS X.K C G N R)) : PSs X [st] (tS X.K C G N R) := pss_to (pss_one h1) fun D σ H h => h
theorem sd_set (i : Nat) {x : Str} {q : Pos} (hN : X.N.Nodup) (he : PE X e (tD X.K C G d)) (hi : X.N[i]? = some x := by rfl) (hx : Loc X.env.scope x := by first | exact Or.inl rfl | exact Or.inr rfl) (hs : swapsWith e (some (.Name x q)) pos.line X.env = pure false := by rfl)
    (hf : X.fn x = true ∨ X.env.scope.names.lookup x = some .local := by first | exact .inl rfl | exact .inr rfl) : PS X (.Assign [.Name x q] e pos) (tS X.K C G (fun g => g = G.set i (.dat d)) R) :=
  ps_to (ps_set hN hi hx he hs hf) fun D σ H ⟨Z, Hi0, Hi, f, S, q1, q2⟩ => ⟨Z, Hi, S, fun v Hi1 H1 e1 h1 => q1 _ _ Hi1 H1 rfl e1.up (f.ext e1) ((S.ext e1).setD h1)⟩
/-- x = [.. for ..] on one line -/
theorem sd_setLcT {own : List (Str × Nat)} {pt : Pt} {ifs : List Expr} {scope : Scope} (i : Nat) {y : Str} {py spos : Pos} (xs : List α) (enc : α → PyData) (tb : α → Bool) (f : α → PyData) {gb : α → List SK} (hc : X.calm = true) (hN : X.N.Nodup) (hi : PI X tg iter (tDI X.K C G (xs.map enc))) (ok : BlkOk X.N X.env.scope scope own)
    (hg : ∀ (s : Shared) (H : Hp) (C' : Addr) (cl : List (Str × Addr)) (fp : List Addr), PG (X.blk s H scope (compEnvC scope cl C' X.env) fp) tg (gPt X.K pt)) (hz : xs.length < sizeLine) (hv : pt.ins (own.map (·.2)))
    (hb : ∀ x, x ∈ xs → BindG pt (enc x) (wipeG G (own.map (·.2))) (gb x))
    (ht : ∀ x, x ∈ xs → ∀ (s : Shared) (H : Hp) (C' : Addr) (cl : List (Str × Addr)) (fp : List Addr), PTs (X.blk s H scope (compEnvC scope cl C' X.env) fp) ifs (tDT X.K C (gb x) (tb x)))
    (he : ∀ x, x ∈ xs → tb x = true → ∀ (s : Shared) (H : Hp) (C' : Addr) (cl : List (Str × Addr)) (fp : List Addr), PE (X.blk s H scope (compEnvC scope cl C' X.env) fp) elt (tD X.K C (gb x) (f x)))
    (hy : X.N[i]? = some y := by rfl) (hyl : X.env.scope.names.lookup y = some .local := by rfl) (hsw : swapsWith (.ListComp elt [⟨tg, iter, ifs, 0⟩] scope pos) (some (.Name y py)) spos.line X.env = pure true := by exact sw_true rfl rfl rfl (by decide +kernel)) (hs : ∀ x, foldedSetIterable iter X.env x = pure x := by intro _; rfl) :
    PS X (.Assign [.Name y py] (.ListComp elt [⟨tg, iter, ifs, 0⟩] scope pos) spos) (tS X.K C G (fun g => g = G.set i (.dat (.list ((xs.filter tb).map f)))) R) :=
  ps_to (ps_setLc hc hN hy hyl hsw hi ok hg (fun s H C' cl fp => pts_or' (P := fun x : {x : α // x ∈ xs} => True) (t := fun x => tDT X.K C (gb x.1) (tb x.1)) fun x _ => ht x.1 x.2 s H C' cl fp)
    (fun s H C' cl fp => pe_or' (P := fun x : {x : α // x ∈ xs} => tb x.1 = true) (t := fun x => tD X.K C (gb x.1) (f x.1)) fun x hx => he x.1 x.2 hx s H C' cl fp) hs)
    fun D σ H ⟨Z, Hi0, Hi, f, S, q1, q2⟩ => tLcAll hz hv hb (fun σ H Q x hx h => ⟨⟨x, hx⟩, trivial, h⟩) (fun σ H Q x hx hb h => ⟨⟨x, hx⟩, hb, h⟩) σ H _ ⟨Z, Hi, S, fun v Hi1 H1 e1 h1 => q1 _ _ Hi1 H1 rfl e1.up (f.ext e1) ((S.ext e1).setD h1)⟩
theorem sd_setLc0 {own : List (Str × Nat)} {pt : Pt} {scope : Scope} (i : Nat) {y : Str} {py spos : Pos} (xs : List α) (enc : α → PyData) (f : α → PyData) {gb : α → List SK} (hc : X.calm = true) (hN : X.N.Nodup) (hi : PI X tg iter (tDI X.K C G (xs.map enc))) (ok : BlkOk X.N X.env.scope scope own)
    (hg : ∀ (s : Shared) (H : Hp) (C' : Addr) (cl : List (Str × Addr)) (fp : List Addr), PG (X.blk s H scope (compEnvC scope cl C' X.env) fp) tg (gPt X.K pt)) (hz : xs.length < sizeLine) (hv : pt.ins (own.map (·.2)))
    (hb : ∀ x, x ∈ xs → BindG pt (enc x) (wipeG G (own.map (·.2))) (gb x))
    (he : ∀ x, x ∈ xs → ∀ (s : Shared) (H : Hp) (C' : Addr) (cl : List (Str × Addr)) (fp : List Addr), PE (X.blk s H scope (compEnvC scope cl C' X.env) fp) elt (tD X.K C (gb x) (f x)))
    (hy : X.N[i]? = some y := by rfl) (hyl : X.env.scope.names.lookup y = some .local := by rfl) (hsw : swapsWith (.ListComp elt [⟨tg, iter, [], 0⟩] scope pos) (some (.Name y py)) spos.line X.env = pure true := by exact sw_true rfl rfl rfl (by decide +kernel)) (hs : ∀ x, foldedSetIterable iter X.env x = pure x := by intro _; rfl) :
    PS X (.Assign [.Name y py] (.ListComp elt [⟨tg, iter, [], 0⟩] scope pos) spos) (tS X.K C G (fun g => g = G.set i (.dat (.list (xs.map f)))) R) := by
  have h := sd_setLcT (R := R) i xs enc (fun _ => true) f hc hN hi ok hg hz hv hb (fun x hx s H C' cl fp => pts_to pts_nil fun σ H Q ⟨Z, Hi, S, q⟩ => q Hi H (Ext.refl S.sub)) (fun x hx _ => he x hx) hy hyl hsw hs
  rw [filter_yes] at h
  exact h
/-- a, b = e1, e2 -/
theorem sd_par (i j : Nat) {x y : Str} {px py pt pt2 : Pos} {kt k2 : Nat} (hc : X.calm = true) (hN : X.N.Nodup) (ha : PE X a (tD X.K C G d1)) (hb : PE X b (tD X.K C G d2)) (hij : i ≠ j := by decide) (hi : X.N[i]? = some x := by rfl) (hj : X.N[j]? = some y := by rfl)
    (hx : X.env.scope.names.lookup x = some .local := by rfl) (hy : X.env.scope.names.lookup y = some .local := by rfl) (he : starEach [a, b] X.env = (false, eval a X.env) :: starEach [b] X.env := by rfl) (he2 : starEach [b] X.env = (false, eval b X.env) :: starEach [] X.env := by rfl)
    (hp : PS X (.Assign [.Tuple [.Name x px, .Name y py] kt pt] (.Tuple [a, b] k2 pt2) pos) (tPar i j (tDs X.K C G [d1, d2])) := by exact ps_par (by rfl) (by assumption) rfl rfl (by decide) rfl rfl (ds_cons (by assumption) (ds_cons (by assumption) ds_nil)) (by rfl)) :
    PS X (.Assign [.Tuple [.Name x px, .Name y py] kt pt] (.Tuple [a, b] k2 pt2) pos) (tS X.K C G (fun g => g = (G.set i (.dat d1)).set j (.dat d2)) R) :=
  ps_to hp fun D σ H ⟨Z, Hi0, Hi, f, S, q1, q2⟩ => ⟨Z, Hi, S, fun vs Hi1 H1 e1 h1 => by
    cases h1 with
    | cons h1 h2 =>
      cases h2 with
      | cons h2 h3 =>
        cases h3
        exact ⟨_, _, rfl, q1 _ _ Hi1 H1 rfl e1.up (f.ext e1) (((S.ext e1).setD h1).setD h2)⟩⟩
theorem sd_ret (he : PE X e (tD X.K C G d)) (hr : R d) : PS X (.Return (some e) pos) (tS X.K C G N R) :=
  ps_to (ps_ret he) fun D σ H ⟨Z, Hi0, Hi, f, S, q1, q2⟩ => ⟨Z, Hi, S, fun v Hi1 H1 e1 h1 => q2 d v Hi1 H1 hr (f.ext e1) e1.sub h1⟩
theorem sd_retN (hr : R .none) : PS X (.Return none pos) (tS X.K C G N R) :=
  ps_to ps_retN fun D σ H ⟨Z, Hi0, Hi, f, S, q1, q2⟩ => q2 .none .non Hi H hr f S.sub .non
theorem sd_if {t : Expr} {body els : List Stmt} (ht : PT X t (tDT X.K C G k1)) (h1 : k1 = true → PSs X body (tS X.K C G N R)) (h2 : k1 = false → PSs X els (tS X.K C G N R)) : PS X (.If t body els pos) (tS X.K C G N R) := by
  cases k1 with
  | true => exact ps_to (ps_if ht (h1 rfl) pss_never) fun D σ H ⟨Z, Hi0, Hi, f, S, q1, q2⟩ => ⟨Z, Hi, S, fun Hi1 H1 e1 => ⟨Z, Hi0, Hi1, f.ext e1, S.ext e1, fun G2 σ2 Hi2 H2 n s2 => q1 G2 σ2 Hi2 H2 n (e1.up.trans s2), q2⟩⟩
  | false => exact ps_to (ps_if ht pss_never (h2 rfl)) fun D σ H ⟨Z, Hi0, Hi, f, S, q1, q2⟩ => ⟨Z, Hi, S, fun Hi1 H1 e1 => ⟨Z, Hi0, Hi1, f.ext e1, S.ext e1, fun G2 σ2 Hi2 H2 n s2 => q1 G2 σ2 Hi2 H2 n (e1.up.trans s2), q2⟩⟩
/-- an if that is not gone into -/
theorem sd_no {t : Expr} {body : List Stmt} (ht : PT X t (tDT X.K C G false)) : PS X (.If t body [] pos) (tS X.K C G (fun g => g = G) R) :=
  sd_if ht (fun z => nomatch z) fun _ => sd_end rfl (Weak.refl G)
theorem sd_expr (he : PE X e (tD X.K C G d)) (hs : swapsWith e none pos.line X.env = pure false := by rfl) : PS X (.Expr e pos) (tS X.K C G (fun g => g = G) R) :=
  ps_to (ps_expr he hs) fun D σ H ⟨Z, Hi0, Hi, f, S, q1, q2⟩ => ⟨Z, Hi, S, fun v Hi1 H1 e1 h1 => q1 _ _ Hi1 H1 rfl e1.up (f.ext e1) (S.ext e1)⟩
/-- x = [], x = {} of one's own -/
theorem sd_newL (i : Nat) {x : Str} {q q2 : Pos} (hN : X.N.Nodup) (hi : X.N[i]? = some x := by rfl) (hx : Loc X.env.scope x := by first | exact Or.inl rfl | exact Or.inr rfl) (hs : swapsWith (.List [] q2) (some (.Name x q)) pos.line X.env = pure false := by rfl)
    (hf : X.fn x = true ∨ X.env.scope.names.lookup x = some .local := by first | exact .inl rfl | exact .inr rfl) : PS X (.Assign [.Name x q] (.List [] q2) pos) (tS X.K C G (fun g => g = G.set i (.mls [])) R) :=
  ps_to (ps_set hN hi hx (pe_lst pa_nil) hs hf) fun D σ H ⟨Z, Hi0, Hi, f, S, q1, q2⟩ => ⟨Nat.zero_le _, fun p hp => q1 _ _ Hi _ rfl (Same.refl _) ⟨f.z.trans (same_new hp), f.up, f.new⟩
    (S.setM f.z hp ⟨p, [], rfl, upd_same, .nil, S.sub.free hp, f.z.free hp⟩)⟩
theorem sd_newD (i : Nat) {x : Str} {q q2 : Pos} (hN : X.N.Nodup) (hi : X.N[i]? = some x := by rfl) (hx : Loc X.env.scope x := by first | exact Or.inl rfl | exact Or.inr rfl) (hs : swapsWith (.Dict [] [] q2) (some (.Name x q)) pos.line X.env = pure false := by rfl)
    (hf : X.fn x = true ∨ X.env.scope.names.lookup x = some .local := by first | exact .inl rfl | exact .inr rfl) : PS X (.Assign [.Name x q] (.Dict [] [] q2) pos) (tS X.K C G (fun g => g = G.set i (.mdk [])) R) :=
  ps_to (ps_set hN hi hx pe_dnewK hs hf) fun D σ H ⟨Z, Hi0, Hi, f, S, q1, q2⟩ => fun p hp => q1 _ _ Hi _ rfl (Same.refl _) ⟨f.z.trans (same_new hp), f.up, f.new⟩
    (S.setM f.z hp ⟨p, rfl, upd_same, S.sub.free hp, f.z.free hp⟩)
/-- a, b = [], e -/
theorem sd_parL (i j : Nat) {x y : Str} {px py pt pt2 q2 : Pos} {kt k2 : Nat} (hb : PE X b (tD X.K C (G.set i .un) d2)) (hb' : PE X b (tD X.K C G d2)) (hij : i ≠ j := by decide)
    (hp : PS X (.Assign [.Tuple [.Name x px, .Name y py] kt pt] (.Tuple [.List [] q2, b] k2 pt2) pos) (tPar i j (tCons (tLst tNil) (tCons (tD X.K C G d2) tNil)))) :
    PS X (.Assign [.Tuple [.Name x px, .Name y py] kt pt] (.Tuple [.List [] q2, b] k2 pt2) pos) (tS X.K C G (fun g => g = (G.set i (.mls [])).set j (.dat d2)) R) :=
  ps_to hp fun D σ H ⟨Z, Hi0, Hi, f, S, q1, q2⟩ => ⟨Nat.zero_le _, fun p hp => by
    have E0 : Ext Hi H Hi (upd H p (.lst [])) := Ext.grow S.sub (same_new hp)
    refine ⟨Z, Hi, S.ext E0, fun v Hi1 H1 e1 h1 => ⟨_, _, rfl, ?_⟩⟩
    have f0 : Fr Z Hi0 Hi (upd H p (.lst [])) := ⟨f.z.trans (same_new hp), f.up, f.new⟩
    have S1 : SlotsOk X.K C Z Hi (upd H p (.lst [])) (σ.set i (some (.ref p))) (G.set i (.mls [])) := S.setM f.z hp ⟨p, [], rfl, upd_same, .nil, S.sub.free hp, f.z.free hp⟩
    exact q1 _ _ Hi1 H1 rfl e1.up (f0.ext e1) ((S1.ext e1).setD h1)⟩
/-- what of the frame stays when a slot's own object changes -/
theorem Fr.chg {Z Hi0 Hi H : Hp} {p : Addr} {o : HO} (f : Fr Z Hi0 Hi H) (h : Z p = none) : Fr Z Hi0 Hi (upd H p o) := ⟨fun b u z => by rw [upd_ne (ne_of_none z h)]; exact f.z _ _ z, f.up, f.new⟩
/-- x.append(e) -/
theorem sd_app (i : Nat) {x : Str} {q1 q2 q3 : Pos} (hk : G[i]? = some (.mls ds)) (he : PE X e (tD X.K C G d)) (hl : ds.length < sizeLine) (hN : X.N[i]? = some x := by rfl) (hv : Vis X.env.scope x := by first | exact Or.inl rfl | exact Or.inr (Or.inl rfl) | exact Or.inr (Or.inr rfl)) (hd : (x == ("__debug__" : Str)) = false := by decide)
    (hcd : (x == ("__classdict__" : Str)) = false := by decide)
    (hst : starEach [e] X.env = (false, eval e X.env) :: starEach [] X.env := by rfl)
    (hp : PE X (.Call (.Attribute (.Name x q1) "append" q2) [e] [] q3) (tBM X.K "list" rAppend (tVar i) (tCons (tD X.K C G d) tNil)))
    (hs : swapsWith (.Call (.Attribute (.Name x q1) "append" q2) [e] [] q3) none pos.line X.env = pure false := by rfl) :
    PS X (.Expr (.Call (.Attribute (.Name x q1) "append" q2) [e] [] q3) pos) (tS X.K C G (fun g => g = G.set i (.mls (ds ++ [d]))) R) :=
  ps_to (ps_expr hp hs) fun D σ H ⟨Z, Hi0, Hi, f, S, r1, r2⟩ => by
    obtain ⟨p, vs, h1, h2, h3, h4, h5⟩ := S.ok i _ hk
    refine ⟨.ref p, h1, .inl ⟨rfl, _, SqL.of h2⟩, Z, Hi, S, fun v Hi1 H1 e1 hv => ?_⟩
    have S1 := S.ext e1
    refine ⟨p, vs, v, rfl, rfl, e1.same _ _ h2, by rw [dps_len h3]; exact hl, ?_⟩
    have hp1 : Hi1 p = none := e1.fresh h2 h4
    refine r1 _ _ Hi1 _ rfl e1.up ((f.ext e1).chg h5) (S1.chg hk h1 (fun _ z => z) (.inl fun _ _ _ _ z => nomatch z) ⟨p, _, h1, upd_same, dps_app (dps_mono e1.up _ _ h3) (.cons hv .nil), hp1, h5⟩)
/-- x[j] = e -/
theorem sd_seti (i : Nat) {x : Str} {q1 q2 : Pos} {j : Int} {k : Nat} {ix : Expr} (hk : G[i]? = some (.mls ds)) (he : PE X e (tD X.K C G d)) (hj : PE X ix (tD X.K C G (.int j))) (hb : ixN ds.length j = some k) (hN : X.N[i]? = some x := by rfl)
    (hv : Vis X.env.scope x := by first | exact Or.inl rfl | exact Or.inr (Or.inl rfl) | exact Or.inr (Or.inr rfl)) (hd : (x == ("__debug__" : Str)) = false := by decide) (hcd : (x == ("__classdict__" : Str)) = false := by decide)
    (hp : PS X (.Assign [.Subscript (.Name x q1) ix q2] e pos) (tAsg (tD X.K C G d) (gSub (tVar i) (tD X.K C G (.int j)) rSetL))) :
    PS X (.Assign [.Subscript (.Name x q1) ix q2] e pos) (tS X.K C G (fun g => g = G.set i (.mls (ds.set k d))) R) :=
  ps_to hp fun D σ H ⟨Z, Hi0, Hi, f, S, r1, r2⟩ => by
    obtain ⟨p, vs, h1, h2, h3, h4, h5⟩ := S.ok i _ hk
    refine ⟨Z, Hi, S, fun v Hi1 H1 e1 hv => ⟨.ref p, h1, Z, Hi1, S.ext e1, fun w Hi2 H2 e2 hw => ?_⟩⟩
    have E := e1.trans e2
    refine ⟨p, vs, j, k, rfl, dp_int hw, E.same _ _ h2, by rw [dps_len h3]; exact hb, ?_⟩
    exact r1 _ _ Hi2 _ rfl E.up ((f.ext E).chg h5) ((S.ext E).chg hk h1 (fun _ z => z) (.inl fun _ _ _ _ z => nomatch z) ⟨p, _, h1, upd_same, dps_set k (dps_mono E.up _ _ h3) (dp_mono e2.up _ _ hv), E.fresh h2 h4, h5⟩)
/-- a key is put into a dict of one's own -/
def insK (ks : List Int) (n : Int) : List Int := if n ∈ ks then ks else ks ++ [n]
theorem putK_ins (ks : List Int) (n : Int) : putK (kvsOf ks) (Sum.inl n) (V.bl true) = kvsOf (insK ks n) := by
  unfold putK insK
  have e : ((kvsOf ks).any fun kv => decide (kv.1 = (Sum.inl n : Key))) = decide (n ∈ ks) := by
    unfold kvsOf
    rw [List.any_map]
    rw [Bool.eq_iff_iff, List.any_eq_true]
    constructor
    · rintro ⟨k, hk, h⟩
      have h2 : (Sum.inl k : Key) = Sum.inl n := of_decide_eq_true h
      cases h2
      exact decide_eq_true hk
    · intro h
      exact ⟨n, of_decide_eq_true h, decide_eq_true rfl⟩
  rw [e]
  by_cases hm : n ∈ ks
  · rw [if_pos (decide_eq_true hm), if_pos hm]
    unfold kvsOf
    rw [List.map_map]
    refine List.map_congr_left fun k _ => ?_
    show (if (Sum.inl k : Key) = Sum.inl n then ((Sum.inl k : Key), V.bl true) else (Sum.inl k, V.bl true)) = _
    split <;> rfl
  · rw [if_neg (by rw [decide_eq_false hm]; exact Bool.false_ne_true), if_neg hm]
    unfold kvsOf
    rw [List.map_append]
    rfl
theorem kvsOf_len (ks : List Int) : (kvsOf ks).length = ks.length := by unfold kvsOf; rw [List.length_map]
theorem sd_dput (i : Nat) {x : Str} {q1 q2 : Pos} {n : Int} {ix : Expr} {ks : List Int} (hk : G[i]? = some (.mdk ks)) (hl : ks.length < sizeLine)
    (hp : PS X (.Assign [.Subscript (.Name x q1) ix q2] e pos) (sDPut (tVar i) (tD X.K C G (.int n)) (tD X.K C G (.bool true)))) :
    PS X (.Assign [.Subscript (.Name x q1) ix q2] e pos) (tS X.K C G (fun g => g = G.set i (.mdk (insK ks n))) R) :=
  ps_to hp fun D σ H ⟨Z, Hi0, Hi, f, S, r1, r2⟩ => by
    obtain ⟨p, h1, h2, h4, h5⟩ := S.ok i _ hk
    refine ⟨Z, Hi, S, fun v Hi1 H1 e1 hv => ⟨.ref p, h1, Z, Hi1, S.ext e1, fun w Hi2 H2 e2 hw => ?_⟩⟩
    have E := e1.trans e2
    obtain rfl := dp_int hw
    obtain rfl := dp_bool hv
    refine ⟨p, upd H2 p (.dK (putK (kvsOf ks) (Sum.inl n) (V.bl true))), rfl, DPut.k (k := Sum.inl n) (E.same _ _ h2) (by rw [kvsOf_len]; exact hl), ?_⟩
    rw [putK_ins]
    exact r1 _ _ Hi2 _ rfl E.up ((f.ext E).chg h5) ((S.ext E).chg hk h1 (fun _ z => z) (.inl fun _ _ _ _ z => nomatch z) ⟨p, h1, upd_same, E.fresh h2 h4, h5⟩)
/-- a list of one's own is from here on data -/
theorem SlotsOk.freeze {K : PySem.W.Frag} {Z Hi H : Hp} {σ : L2.St} {i : Nat} (S : SlotsOk K C Z Hi H σ G) (hk : G[i]? = some (.mls ds)) : ∃ Hi', Same Hi Hi' ∧ (∀ b o, Hi' b = some o → Hi b = some o ∨ Z b = none) ∧ SlotsOk K C Z Hi' H σ (G.set i (.dat (.list ds))) := by
  obtain ⟨p, vs, h1, h2, h3, h4, h5⟩ := S.ok i _ hk
  have hs : Same Hi (upd Hi p (.lst vs)) := same_new h4
  have sub : Same (upd Hi p (.lst vs)) H := fun b o z => by
    by_cases hb : b = p
    · rw [hb, upd_same] at z
      rw [hb, h2]
      exact z
    · rw [upd_ne hb] at z
      exact S.sub _ _ z
  refine ⟨upd Hi p (.lst vs), hs, fun b o z => ?_, ⟨by rw [List.length_set, S.len], sub, fun j k e => ?_, fun j1 j2 k1 k2 a e1 e2 q1 q2 => ?_⟩⟩
  · by_cases hb : b = p
    · exact .inr (by rw [hb]; exact h5)
    · rw [upd_ne hb] at z
      exact .inl z
  · rcases get_set e with ⟨rfl, rfl⟩ | ⟨hj, e⟩
    · exact ⟨.ref p, h1, .lst (SqL.of upd_same) (dps_mono hs _ _ h3)⟩
    · have z := S.ok j k e
      have noP : ∀ u, Own (σ[j]?) k u → u ≠ p := fun u m z => by
        subst z
        exact hj (S.inj j i _ _ u e hk m h1)
      cases k with
      | un => trivial
      | dat d =>
        obtain ⟨v, q1, q2⟩ := z
        exact ⟨v, q1, dp_mono hs _ _ q2⟩
      | pdt d =>
        obtain ⟨v, q1, q2, q3⟩ := z
        exact ⟨v, q1, dp_mono hs _ _ q2, q3.mono hs⟩
      | mls dl =>
        obtain ⟨u, ws, q1, q2, q3, q4, q5⟩ := z
        exact ⟨u, ws, q1, q2, dps_mono hs _ _ q3, by rw [upd_ne (noP u q1)]; exact q4, q5⟩
      | mdk dl =>
        obtain ⟨u, q1, q2, q4, q5⟩ := z
        exact ⟨u, q1, q2, by rw [upd_ne (noP u q1)]; exact q4, q5⟩
      | rcv p l r =>
        obtain ⟨u, q1, q2⟩ := z
        obtain ⟨dx, fs, vl, vp, f1, f2, f3, f4, f5, f6, f7⟩ := q2.ex
        exact ⟨u, q1, ⟨dx, fs, vl, vp, f1, f2, f3, f4, f5, dp_mono hs _ _ f6, f7.mono hs⟩⟩
      | rcm u p l r =>
        obtain ⟨q1, q2, q3, q4⟩ := z
        obtain ⟨dx, fs, vl, vp, f1, f2, f3, f4, f5, f6, f7⟩ := q2.ex
        exact ⟨q1, ⟨dx, fs, vl, vp, f1, f2, f3, f4, f5, dp_mono hs _ _ f6, f7.mono hs⟩, by rw [upd_ne (noP u rfl)]; exact q3, q4⟩
      | aml u dl =>
        obtain ⟨ws, q1, q2, q3, q4, q5⟩ := z
        exact ⟨ws, q1, q2, dps_mono hs _ _ q3, by rw [upd_ne (noP u rfl)]; exact q4, q5⟩
      | st u l cells lefts t =>
        obtain ⟨q1, q2, q3, q4, q5, q6⟩ := z
        exact ⟨q1, q2.ext hs (fun o z => z) (fun o z => z), by rw [upd_ne (noP u (.inl rfl))]; exact q3, q4, by rw [upd_ne (noP l (.inr rfl))]; exact q5, q6⟩
  · have back : ∀ {j : Nat} {l : SK}, (G.set i (.dat (.list ds)))[j]? = some l → Own (σ[j]?) l a → G[j]? = some l := fun {j l} e m => by
      rcases get_set e with ⟨rfl, rfl⟩ | ⟨_, e⟩
      · exact m.elim
      · exact e
    exact S.inj j1 j2 k1 k2 a (back e1 q1) (back e2 q2) q1 q2
theorem sd_freeze (i : Nat) (hk : G[i]? = some (.mls ds)) (h : PSs X sts (tS X.K C (G.set i (.dat (.list ds))) N R)) : PSs X sts (tS X.K C G N R) :=
  pss_to h fun D σ H ⟨Z, Hi0, Hi, f, S, r1, r2⟩ => by
    obtain ⟨Hi', s, nw, S'⟩ := S.freeze hk
    exact ⟨Z, Hi0, Hi', ⟨f.z, f.up.trans s, fun b o z => (nw b o z).elim (fun z => f.new b o z) .inr⟩, S', fun G2 σ2 Hi2 H2 n s2 => r1 G2 σ2 Hi2 H2 n (s.trans s2), r2⟩

/-! ### for -/
variable {pt : Pt} {body : List Stmt}
theorem BindG.det {pt : Pt} {d : PyData} {G G1 G2 : List SK} (h : BindG pt d G G1) (h' : BindG pt d G G2) : G1 = G2 := by
  cases h <;> cases h' <;> rfl
theorem sd_for (P : Nat → List SK → Prop) (hc : X.calm = true) (hi : PI X tg iter (tDI X.K C G ds)) (hg : PG X tg (gPt X.K pt)) (h0 : P 0 G)
    (hs : ∀ (i : Nat) (d : PyData) (Gi : List SK), ds[i]? = some d → P i Gi → ∃ G', BindG pt d Gi G' ∧ PSs X body (tS X.K C G' (P (i + 1)) R)) (hd : ∀ G', P ds.length G' → N G')
    (hp : PassesOwn (model X.prog X.w) X.A X.env X.xe := by exact PassesOwn.never) (hfs : ∀ x, foldedSetIterable iter X.env x = pure x := by intro _; rfl) : PS X (.For tg iter body [] pos) (tS X.K C G N R) := by
  refine ps_to (ps_for hp hc hi hg (pss_or' (ι := Nat × PyData × List SK × List SK) (P := fun z => ds[z.1]? = some z.2.1 ∧ P z.1 z.2.2.1 ∧ BindG pt z.2.1 z.2.2.1 z.2.2.2) (t := fun z => tS X.K C z.2.2.2 (P (z.1 + 1)) R) ?_) hfs) ?_
  · rintro ⟨i, d, Gi, G'⟩ ⟨h1, h2, h3⟩
    obtain ⟨G2, h4, h5⟩ := hs i d Gi h1 h2
    have e : G' = G2 := BindG.det h3 h4
    rw [e]
    exact h5
  · rintro D σ H ⟨Z, Hi0, Hi, f, S, r1, r2⟩
    refine ⟨Z, Hi, S, fun J Hi1 H1 e1 w => ?_⟩
    refine ⟨fun i m σ2 H2 => m = ds.length - i ∧ i ≤ ds.length ∧ ∃ Gi Hi2, P i Gi ∧ Fr Z Hi0 Hi2 H2 ∧ Same Hi1 Hi2 ∧ SlotsOk X.K C Z Hi2 H2 σ2 Gi, ⟨ds.length, by simp, Nat.zero_le _, G, Hi1, h0, f.ext e1, Same.refl _, S.ext e1⟩, ?_⟩
    rintro i m σ2 H2 ⟨rfl, hle, Gi, Hi2, p, f2, s2, S2⟩
    by_cases hlt : i < ds.length
    · obtain ⟨d, hdi⟩ := at_some hlt
      refine .inr ⟨w.goes i H2 hlt (s2.trans S2.sub), fun σ' H' => ∃ Gi Hi2, P (i + 1) Gi ∧ Fr Z Hi0 Hi2 H' ∧ Same Hi1 Hi2 ∧ SlotsOk X.K C Z Hi2 H' σ' Gi, fun σ' H' z => ⟨ds.length - (i + 1), by omega, rfl, hlt, z⟩, fun x H' y => ?_⟩
      obtain ⟨Hi3, d', h1, h2, h3⟩ := w.yields i H2 Hi2 x H' hlt s2 S2.sub y
      rw [hdi] at h1
      cases h1
      obtain ⟨G', h4, h5⟩ := hs i d Gi hdi p
      refine g_bind (S2.ext h2) h3 h4 fun σ4 S4 => ⟨(i, d, Gi, G'), ⟨hdi, p, h4⟩, Z, Hi0, Hi3, f2.ext h2, S4, fun G5 σ5 Hi5 H5 p5 s5 f5 S5 => ⟨G5, Hi5, p5, f5, s2.trans (h2.up.trans s5), S5⟩, r2⟩
    · have e : i = ds.length := by omega
      subst e
      exact .inl ⟨w.stops H2 (s2.trans S2.sub), r1 Gi σ2 Hi2 H2 (hd Gi p) (e1.up.trans s2) f2 S2⟩
end
end NL
set_option maxHeartbeats 2000000
/-! The layer's rules: defs, their promises over data, their calls. -/
namespace NL
open PySem PySem.Spec PyProof.Rows L2 StX
/-- a def's promise over data -/
def SpD (K : PySem.W.Frag) (C : Addr) (R : List SK → PyData → Prop) : Sp := fun vs H Q _ => ∃ Hi ks d, Same Hi H ∧ ArgsOk K C Hi H vs ks ∧ R ks d ∧ ∀ v Hi' H', Ext Hi H Hi' H' → Dp K Hi' v d → Q v H'
section
variable {K : PySem.W.Frag} {C : Addr} {Hi H : Hp}
theorem args_slots : ∀ {vs : List V} {ks : List SK}, ArgsOk K C Hi H vs ks → ∀ (i : Nat) (k : SK), ks[i]? = some k → ∃ v, vs[i]? = some v ∧ ArgOk K C Hi H v k
  | _, _, .nil, _, _, h => by simp at h
  | _, _, .cons a _, 0, _, h => by
    cases h
    exact ⟨_, rfl, a⟩
  | _, _, .cons _ b, i + 1, k, h => args_slots b i k h
theorem arg_slot {v : V} {k : SK} (Z : Hp) (h : ArgOk K C Hi H v k) : SlotOk K C Z Hi H (some (some v)) k ∧ isMut k = false := by
  cases k with
  | dat d => exact ⟨⟨v, rfl, h⟩, rfl⟩
  | rcv p l q =>
    obtain ⟨x, rfl, r⟩ := h
    exact ⟨⟨x, rfl, r⟩, rfl⟩
  | _ => cases h
/-- the slots at a def's entry -/
theorem slots_start {N : List Str} {vs : List V} {ks : List SK} (s : Same Hi H) (h : ArgsOk K C Hi H vs ks) : SlotsOk K C H Hi H (L2.start N vs) (ks ++ List.replicate (N.length - ks.length) .un) := by
  have hl := h.len
  have key : ∀ (i : Nat) (k : SK), (ks ++ List.replicate (N.length - ks.length) SK.un)[i]? = some k → SlotOk K C H Hi H ((L2.start N vs)[i]?) k ∧ isMut k = false := fun i k e => by
    by_cases hi : i < ks.length
    · rw [List.getElem?_append_left hi] at e
      obtain ⟨v, hv, ha⟩ := args_slots h i k e
      have e2 : (L2.start N vs)[i]? = some (some v) := by
        unfold L2.start
        rw [List.getElem?_append_left (by rw [List.length_map]; omega), List.getElem?_map, hv]
        rfl
      rw [e2]
      exact arg_slot H ha
    · rw [List.getElem?_append_right (by omega)] at e
      have e3 := List.eq_of_mem_replicate (List.mem_of_getElem? e)
      subst e3
      exact ⟨trivial, rfl⟩
  refine ⟨by unfold L2.start; rw [List.length_append, List.length_append, List.length_map, List.length_replicate, List.length_replicate]; omega, s, fun i k e => (key i k e).1, fun i j k l a e1 _ q1 _ => ?_⟩
  exact (own_no (key i k e1).2 q1).elim
end
section
variable {P : Program} {w : World} {K : PySem.W.Frag} {mg : Str → Option Value} {base : Heap} {C : Addr}
/-- THE RULE for a def over data -/
theorem fn_sd {x qual : Str} {params : Arguments} {body : List Stmt} {scope : Scope} {kws : List (Str × V)} {dvs : List V} {f : Addr} {fd : FuncData} {N ps : List Str} {k : Nat} {R : List SK → PyData → Prop} (F : FunD K x qual params body scope dvs kws f fd) (S : FnScope N ps scope)
    (hl : ∀ ks d, R ks d → ks.length = ps.length)
    (hb : ∀ (cdv : Value) (A : Around) (outer : List Env) (s : Shared) (H : Hp) (E : XK) (ks : List SK) (d : PyData), Room k (A.deeper (envOfC qual scope s.heap.objs.size f cdv)) → R ks d →
      PSs (cxOf CX0 P w K mg base N qual scope f cdv A outer s H E).nox body (tS K C (ks ++ List.replicate (N.length - ks.length) .un) (fun _ => d = .none) (fun d' => d' = d))) : FnOk P w K mg base CX0 (k + 1) f fd ps (SpD K C R) := by
  refine F.ok S (fun vs H Q E h => ?_) (fun cdv A outer s H vs Q E hr h => ?_)
  · obtain ⟨Hi, ks, d, _, ha, hR, _⟩ := h
    rw [ha.len]
    exact hl ks d hR
  · obtain ⟨Hi, ks, d, s0, ha, hR, q⟩ := h
    refine ⟨_, (hb cdv A outer s H E ks d hr hR).nox, ?_⟩
    refine ⟨H, Hi, Hi, ⟨Same.refl _, Same.refl _, fun b o z => .inl z⟩, slots_start s0 ha, fun G' σ' Hi' H' n _ f' S' => ?_, fun d' v Hi' H' e f' s' h' => ?_⟩
    · have e : d = .none := n
      rw [e] at q
      exact q .non Hi' H' ⟨f'.z, f'.up, S'.sub, f'.new⟩ .non
    · have e : d' = d := e
      rw [e] at h'
      exact q v Hi' H' ⟨f'.z, f'.up, s', f'.new⟩ h'
/-- a def by its name -/
structure CalN (P : Program) (w : World) (K : PySem.W.Frag) (mg : Str → Option Value) (base : Heap) (k : Nat) (x : Str) (sp : Sp) : Prop where
  ex : ∃ (f : Addr) (fd : FuncData) (ps : List Str), FnOk P w K mg base CX0 k f fd ps sp ∧ mg x = some (.ref f) ∧ PySem.W.keepIn K (.ref f) = true ∧ Binds K fd ps []
/-- a def over data, by its name -/
abbrev CalD (P : Program) (w : World) (K : PySem.W.Frag) (mg : Str → Option Value) (base : Heap) (C : Addr) (k : Nat) (x : Str) (R : List SK → PyData → Prop) : Prop := CalN P w K mg base k x (SpD K C R)
theorem cal_sd {x : Str} {st : Stmt} {f : Addr} {fd : FuncData} {N ps : List Str} {k : Nat} {R : List SK → PyData → Prop} (F : FnP K x x st [] f fd) (hm : mg x = some (.ref f)) (S : FnScope N ps (defScope st))
    (hbd : ∀ (kV doc pm : Value) (an : Option Addr) (cdv ct : Value) (us : List Value), us.length = ps.length → bindArgs (PySem.W.fnOf x x (defArgs st) (defBody st) (defScope st) .none kV doc pm an cdv ct) ⟨us, []⟩ = pure (ps.zip us))
    (hl : ∀ ks d, R ks d → ks.length = ps.length)
    (hb : ∀ (cdv : Value) (A : Around) (outer : List Env) (s : Shared) (H : Hp) (E : XK) (ks : List SK) (d : PyData), Room k (A.deeper (envOfC x (defScope st) s.heap.objs.size f cdv)) → R ks d →
      PSs (cxOf CX0 P w K mg base N x (defScope st) f cdv A outer s H E).nox (defBody st) (tS K C (ks ++ List.replicate (N.length - ks.length) .un) (fun _ => d = .none) (fun d' => d' = d))) : CalD P w K mg base C (k + 1) x R := by
  exact ⟨f, fd, ps, fn_sd F S hl hb, hm, F.kp, F.bindsN hbd⟩
end
section
variable {X : Cx} {C : Addr} {G : List SK} {e : Expr} {es : List Expr} {pos p : Pos} {d : PyData} {ks : List SK} {R : List SK → PyData → Prop}
theorem tCall_D (hR : R ks d) : ∀ σ H Q, tD X.K C G d σ H Q → tCall (SpD X.K C R) [] E0 (tDA X.K C G ks) σ H Q := fun σ H Q ⟨Z, Hi, S, q⟩ =>
  ⟨Z, Hi, S, fun vs Hi1 H1 e1 h1 => by
    show SpD X.K C R (vs ++ []) H1 Q E0
    rw [List.append_nil]
    exact ⟨Hi1, ks, d, e1.sub, h1, hR, fun v Hi2 H2 e2 h2 => q v Hi2 H2 (e1.trans e2) h2⟩⟩
/-- f(..) -/
theorem pd_call {k j : Nat} {x : Str} (c : CalD X.prog X.w X.K X.mg X.base C k x R) (hr : Room j X.A) (ha : PA X (e :: es) (tDA X.K C G ks)) (hR : R ks d) (hk : k ≤ j := by decide) (hg : Gl X x := by rfl) (hdb : (x == ("__debug__" : Str)) = false := by decide)
    (he : starEach (e :: es) X.env = (false, eval e X.env) :: starEach es X.env := by rfl) (hpl : (backTo pos (starEach es X.env)).any (·.1) = false := by rfl) : PE X (.Call (.Name x p) (e :: es) [] pos) (tD X.K C G d) :=
  let ⟨_, _, _, F, hm, kp, b⟩ := c.ex
  pe_to (pe_call F (hr.mono hk) hg hm kp b .nil pass0 ha hdb he hpl) (tCall_D hR)
end
/-! ### data in short -/
def dI (ns : List Int) : PyData := .tuple (ns.map .int)
def dL (ns : List Int) : PyData := .list (ns.map .int)
end NL
set_option maxHeartbeats 4000000
/-! Rules of the machine that the library lacks: sum(tuple), tuple[::-1], enumerate(tuple), list + list, list * int, repr of data. -/
namespace NL
open PySem PySem.Spec PyProof.Rows L2 StX
section
variable {prog : Program} {w : World} {A : Around} {E : Value → Shared → Prop} {s : Shared}
/-! ### sum(tuple) -/
theorem sum_rawT {l : Addr} {its : List Value} {ns : List Int} {Q : Value → Shared → Prop} (hh : A.handled = none) (hl : s.heap.IsTuple l its.toArray) (hi : IntsAre its ns)
    (h : ∀ h' tk t', (∀ b o, s.heap.get? b = some o → h'.get? b = some o) → Q (.int ns.sum t') { s with heap := h', toks := tk }) : wpAny (model prog w) A (call (.builtin "sum") [.ref l]) Q E s := by
  obtain ⟨xs, e⟩ := hi.allInts.items
  have hn : numsOf (intItems xs).toList = ns := by rw [← e]; exact hi.numsOf
  rw [nums_intItems] at hn
  rw [e] at hl
  have hlt : l < s.heap.objs.size := by
    obtain ⟨o, ho, _⟩ := hl
    exact Heap.lt_size ho
  refine call_sum_walkG (wpAny_pyIter_tuple hl ?_)
  refine ⟨_, [_, l], [_], _, _, _, numAt xs, rfl, Walks.tuple (A := A.in1) hh _ l (Nat.ne_of_lt hlt) (intItems xs), ⟨⟨_, Heap.get?_push_size _ rfl, rfl, rfl⟩, hl.push _⟩, fun c hc => ?_, (fun _ _ => intItems_at), fun h' tk t' hk => ?_⟩
  · show c < (s.heap.push _).objs.size
    rw [Heap.size_push]
    rcases List.mem_cons.mp hc with rfl | hc
    · exact Nat.lt_succ_self _
    · rcases List.mem_cons.mp hc with rfl | hc
      · exact Nat.lt_succ_of_lt hlt
      · cases hc
  · have hold : ∀ c o, s.heap.get? c = some o → h'.get? c = some o := fun c o e => by
      refine hk c o (fun hm => ?_) (Heap.get?_push_of_some _ e)
      rcases List.mem_cons.mp hm with e1 | hm
      · have := Heap.lt_size e; rw [e1] at this; exact Nat.lt_irrefl _ this
      · cases hm
    have := h h' tk t' hold
    have z : preSum (numAt xs) (intItems xs).size = ns.sum := by
      rw [show (intItems xs).size = xs.size by simp [intItems], preSum_eq, List.take_of_length_le (by simp), hn]
    rw [z]
    exact this
end
section
variable {X : Cx}
def rSumT (K : PySem.W.Frag) : List V → Hp → VK → Prop := fun vs H Q => ∃ (a : Addr) (ns : List Int), vs = [V.ref a] ∧ SqT K H a (ns.map V.int) ∧ Q (.int ns.sum) H
theorem cr_sumT (hc : X.calm = true) : CallR X (.builtin "sum") (rSumT X.K) := by
  intro pins s σ H vs us Q I r h
  obtain ⟨a, ns, rfl, hs, q⟩ := h
  obtain ⟨its, rv, hl, _⟩ := I.tuple hs
  rw [Vals.ref1 r]
  exact sum_rawT (I.ok.hd hc) hl (intsAre_of rv) fun h' tk t' hk => ⟨.int _, H, I.kept hk, ⟨_, rfl⟩, q⟩
end
/-! ### t[::-1] -/
section
variable {prog : Program} {w : World} {A : Around} {E : Value → Shared → Prop} {s : Shared}
theorem adjust_rev (n : Nat) : Builtin.Slice.sliceAdjust none none (-1) (n : Int) = ((n : Int) - 1, -1) := by
  unfold Builtin.Slice.sliceAdjust
  rfl
theorem places_rev (n : Nat) : Builtin.Slice.slicePlaces ((n : Int) - 1) (-1) (-1) = n := by
  unfold Builtin.Slice.slicePlaces
  rw [if_neg (by decide)]
  have e : (-(-1 : Int)) = 1 := by decide
  rw [e, Int.ediv_one]
  split <;> omega
theorem sliceApplied_rev {sl : Addr} {vl vu vs : Value} {n : Nat} {Q : Int × Int × Nat → Shared → Prop} (hs : s.heap.IsSliceOf sl vl vu vs) (pl : IsPart vl none) (pu : IsPart vu none) (ps : IsPart vs (some (-1)))
    (h : Q ((n : Int) - 1, -1, n) s) : wpAny (model prog w) A (Builtin.Slice.sliceApplied (.ref sl) (pure (n : Int))) Q E s := by
  obtain ⟨os, hos, hcs, hds⟩ := id hs
  unfold Builtin.Slice.sliceApplied Builtin.Slice.sliceFields
  refine wpAny_bind (wpAny_bind (wpAny_field hos hds (x := vl) rfl (wpAny_bind (wpAny_field hos hds (x := vu) rfl (wpAny_bind (wpAny_field hos hds (x := vs) rfl (wpAny_pure ?_)))))))
  refine wpAny_bind (HT.slicePart_ ps ?_)
  show wpAny _ _ (if ((-1 : Int) == 0) = true then _ else _) _ _ s
  rw [if_neg (by decide)]
  refine wpAny_bind (HT.slicePart_ pl (wpAny_bind (HT.slicePart_ pu (wpAny_bind (wpAny_pure ?_)))))
  show wpAny _ _ (match Builtin.Slice.sliceAdjust none none (-1) (n : Int) with | (lo, hi) => pure (lo, (-1 : Int), Builtin.Slice.slicePlaces lo hi (-1))) _ _ s
  rw [adjust_rev n]
  show wpAny _ _ (pure ((n : Int) - 1, (-1 : Int), Builtin.Slice.slicePlaces ((n : Int) - 1) (-1) (-1))) _ _ s
  rw [places_rev]
  exact wpAny_pure h
theorem pick_rev (xs : Array Value) : ((List.range xs.size).filterMap fun (m : Nat) => xs[(((xs.size : Int) - 1) + (m : Int) * -1).toNat]?).toArray = xs.toList.reverse.toArray := by
  congr 1
  have e : ∀ (m : Nat), m < xs.size → xs[(((xs.size : Int) - 1) + (m : Int) * -1).toNat]? = xs.toList.reverse[m]? := fun m hm => by
    have h1 : (((xs.size : Int) - 1) + (m : Int) * -1).toNat = xs.size - 1 - m := by omega
    rw [h1, List.getElem?_reverse (by rw [Array.length_toList]; exact hm), Array.length_toList, Array.getElem?_toList]
  have e2 : ∀ n, n ≤ xs.size → ((List.range n).filterMap fun (m : Nat) => xs[(((xs.size : Int) - 1) + (m : Int) * -1).toNat]?) = xs.toList.reverse.take n := fun n => by
    induction n with
    | zero => intro _; rfl
    | succ n ih =>
      intro hn
      have hl : n < xs.toList.reverse.length := by rw [List.length_reverse, Array.length_toList]; omega
      rw [List.range_succ, List.filterMap_append, ih (by omega), List.take_add_one]
      congr 1
      show List.filterMap _ [n] = _
      rw [List.filterMap_cons, e n (by omega), List.getElem?_eq_getElem hl]
      rfl
  rw [e2 xs.size (Nat.le_refl _), List.take_of_length_le (by rw [List.length_reverse, Array.length_toList]; exact Nat.le_refl _)]
theorem getItem_tuple_rev {t sl : Addr} {items : Array Value} {vl vu vs : Value} {Q : Value → Shared → Prop} (ht : IsTup s.heap t items) (hs : s.heap.IsSliceOf sl vl vu vs) (pl : IsPart vl none) (pu : IsPart vu none) (ps : IsPart vs (some (-1)))
    (h : Q (.ref s.heap.objs.size) { s with heap := s.heap.push { cls := .type "tuple", data := .seq items.toList.reverse.toArray } })
    (hsz : items.size ≤ sizeLine) : wpAny (model prog w) A (getItem (.ref t) (.ref sl)) Q E s := by
  have htake : sizeOk (.seq items.toList.reverse.toArray) := by
    show items.toList.reverse.toArray.size ≤ sizeLine
    rw [List.size_toArray, List.length_reverse, Array.length_toList]
    exact hsz
  obtain ⟨os, hos, hcs, hds⟩ := id hs
  have hTs : s.TypeIs (.ref sl) "slice" := ⟨os, hos, hcs⟩
  unfold getItem
  try with_reducible refine wpAny_holding ?_
  first | refine wpAny_bind (wpAny_pure ?_) | skip
  refine wpAny_bind (wpAny_sequenceKey ht.typeIs (by decide) ?_)
  refine wpAny_bind (wpAny_callSpecial?_slot (name := Str.ofString "__getitem__") ht.typeIs PyProof.Rows.slot_tuple_getitem
    (wpAny_call_entry PyProof.Rows.slot_tuple_getitem ht.typeIs entry_tuple_getitem ?_ (args_tuple_getitem _ _)))
  show wpAny _ _ (Builtin.Tuple.tupleItemsOf (.ref t) >>= _) _ _ s
  refine wpAny_bind (tupleItemsOf_ ht ?_)
  refine wpAny_bind (wpAny_typeOf hTs ?_)
  rw [if_pos (by decide)]
  refine wpAny_bind (sliceApplied_rev hs pl pu ps ?_)
  have hno : ¬ ((((items.size : Int) - 1) == 0 && (-1 : Int) == 1 && items.size == items.size) = true) := by
    intro q
    rw [Bool.and_eq_true, Bool.and_eq_true] at q
    exact absurd q.1.2 (by decide)
  show wpAny _ _ (if (((items.size : Int) - 1) == 0 && (-1 : Int) == 1 && items.size == items.size) = true then _ else _) _ _ s
  rw [if_neg hno, pick_rev]
  first
    | exact wpAny_bind (m := Builtin.Tuple.tupleExact _) (wpAny_newObj_type (wpAny_pure ⟨_, rfl, wpAny_pure h⟩) htake)
    | exact wpAny_bind (m := Builtin.Tuple.tupleExact _) (wpAny_newObj_type (wpAny_bind (wpAny_pure (wpAny_pure ⟨_, rfl, wpAny_pure h⟩))) htake)
    | exact wpAny_bind (wpAny_bind (m := Builtin.Tuple.tupleExact _) (wpAny_newObj_type (wpAny_pure (wpAny_pure ⟨_, rfl, wpAny_pure h⟩)) htake))
    | exact wpAny_bind (wpAny_bind (m := Builtin.Tuple.tupleExact _) (wpAny_newObj_type (wpAny_pure ⟨_, rfl, wpAny_pure h⟩) htake))
end
section
variable {X : Cx}
def tRevT (K : PySem.W.Frag) (te : TE) : TE := fun σ H Q => te σ H fun x H1 => ∃ a xs, x = .ref a ∧ SqT K H1 a xs ∧ ∀ p, H1 p = none → Q (.ref p) (upd H1 p (.tup xs.reverse))
theorem pe_revT {e : Expr} {te : TE} {k : Nat} {p1 p2 p3 pos : Pos} (he : PE X e te) : PE X (.Subscript e (.Slice none none (some (.UnaryOp .USub (.Constant (.int 1) k p1) p2)) p3) pos) (tRevT X.K te) := by
  refine ⟨fun pins s σ H Q I h => ?_⟩
  refine Subscript_ (thn (he.run pins s σ H _ I h) fun v s1 ⟨x, H1, I1, r1, q1⟩ => ?_)
  obtain ⟨a, xs, ex, hx, q⟩ := q1
  subst ex
  cases r1
  have hst : PO X (some (.UnaryOp .USub (.Constant (.int 1) k p1) p2)) (tPart (tUn (rU fun i => .int (-i)) (tC (.int 1)))) := po_some (pe_un un_neg pe_int)
  refine wpAny_Slice (thn (po_none.run pins s1 σ H1 (fun o H2 => o = none ∧ H2 = H1) I1 ⟨rfl, rfl⟩) fun vl s2 ⟨l, H2, I2, pl, el, e2⟩ => ?_)
  subst el e2
  refine thn (po_none.run pins s2 σ H2 (fun o H3 => o = none ∧ H3 = H2) I2 ⟨rfl, rfl⟩) fun vu s3 ⟨u, H3, I3, pu, eu, e3⟩ => ?_
  subst eu e3
  refine thn (hst.run pins s3 σ H3 (fun o H4 => o = some (-1) ∧ H4 = H3) I3 ⟨1, rfl, -1, rfl, rfl, rfl⟩) fun vs s4 ⟨o, H4, I4, ps, eo, e4⟩ => ?_
  subst eo e4
  have I5 : Inv X pins σ H4 { s4 with heap := s4.heap.push { cls := .type "slice", data := .fields #[vl, vu, vs] } } := I4.kept (t' := s4.toks) fun b ob q => Heap.get?_push_of_some _ q
  obtain ⟨its, r, ht, hz⟩ := I5.tuple hx
  have hlen := r.length
  show wpAny (model X.prog X.w) X.A (subscriptTail e (.Slice none none (some (.UnaryOp .USub (.Constant (.int 1) k p1) p2)) p3) (.ref a) (.ref s4.heap.objs.size)) (EP X pins σ Q) X.xe { s4 with heap := s4.heap.push { cls := .type "slice", data := .fields #[vl, vu, vs] } }
  refine tail_any (ops := [.ref a, .ref s4.heap.objs.size]) ht.typeIs (PyProof.Rows.slot_tuple_getitem.lookup) ?_ (by with_unfolding_all rfl)
  refine getItem_tuple_rev ht (Heap.IsSliceOf.new _ vl vu vs) pl pu ps ?_ (by rw [List.size_toArray]; omega)
  have er : its.toArray.toList.reverse = its.reverse := rfl
  rw [er]
  refine ⟨.ref _, _, I5.laid (t' := s4.toks) (o := .tup xs.reverse) (fun b ob q => Heap.get?_push_of_some _ q) (Nat.le_refl _) ?_, rfl, q _ (I5.hok.fresh (Nat.le_refl _))⟩
  exact ⟨by rw [List.length_reverse]; exact hz, its.reverse, r.reverse, IsTup.new _ _⟩
end
/-! ### enumerate(tuple) -/
set_option maxHeartbeats 4000000 in
theorem meets_enumerate_newT (l : Addr) (items : Array Value) (n : Nat) (dct : Option Addr) (sl : Array (Option Value)) :
    Meets (Builtin.«enumerate.__new__» ⟨[.type "enumerate", .ref l], []⟩) (fun _ R s => s.heap.get? l = some { cls := .type "tuple", dict := dct, data := .seq items n, slots := sl } ∧
      R (.ok (.ret (.ref (s.heap.push { cls := .type "tuple_iterator", data := .fields #[.ref l, .int 0 0] }).objs.size)))
        { s with heap := (s.heap.push { cls := .type "tuple_iterator", data := .fields #[.ref l, .int 0 0] }).push { cls := .type "enumerate", data := .fields #[.none, .bool false, .ref s.heap.objs.size, rawInt 0, .none, .none] } }) :=
  .of_wp fun prog w A R s h => by
    obtain ⟨hp, g, d, tk, os⟩ := s; obtain ⟨hl, h⟩ := h
    have hsub := sub_enumerate
    have hL : Heap.IsTuple (Shared.heap ⟨hp, g, d, tk, os⟩) l items := ⟨_, hl, rfl, n, rfl⟩
    wp_walk using PySem.AutoSeq1.wpAny_loadPart' hl
    refine wpAny_stack_any fun st => wpAny_pure ?_
    split
    · rename_i c _ _ _ _ _
      cases (c == Value.type "enumerate")
      · wp_walk using PySem.AutoSeq1.wpAny_loadPart' hl, wpAny_pyIter_tuple hL
        exact ⟨_, rfl, h⟩
      · wp_walk using PySem.AutoSeq1.wpAny_loadPart' hl, wpAny_pyIter_tuple hL
        exact ⟨_, rfl, h⟩
    · wp_walk using PySem.AutoSeq1.wpAny_loadPart' hl, wpAny_pyIter_tuple hL
      exact ⟨_, rfl, h⟩
section
variable {prog : Program} {w : World} {A : Around} {E : Value → Shared → Prop} {s : Shared}
theorem call_enumerate_tuple {l : Addr} {items : Array Value} {Q : Value → Shared → Prop} (hL : s.heap.IsTuple l items)
    (h : ∀ h', IsEnum h' (s.heap.objs.size + 1) s.heap.objs.size 0 .none → h'.IsTupleIter s.heap.objs.size l 0 → h'.objs.size = s.heap.objs.size + 2 →
      (∀ b o, s.heap.get? b = some o → h'.get? b = some o) → Q (.ref (s.heap.objs.size + 1)) { s with heap := h' }) :
    wpAny (model prog w) A (call (.type "enumerate") [.ref l]) Q E s := by
  obtain ⟨⟨c, dct, dt, sl⟩, hl, hc, n, hd⟩ := hL
  replace hc : c = .type "tuple" := hc
  replace hd : dt = .seq items n := hd
  subst hc hd
  refine callType_new F.called_enumerate (by decide) (F.typeCall_enumerate_1 _) (F.newCall_enumerate_1 _) (fun obj => F.args_object_init_2 obj _) F.entry_enumerate_new
    (meets_enumerate_newT l items n dct sl) ⟨hl, ?_⟩
  have hz : (s.heap.push { cls := .type "tuple_iterator", data := .fields #[.ref l, .int 0 0] }).objs.size = s.heap.objs.size + 1 := Heap.size_push ..
  show _ ∧ _
  rw [hz]
  have he : IsEnum ((s.heap.push { cls := .type "tuple_iterator", data := .fields #[.ref l, .int 0 0] }).push
      { cls := .type "enumerate", data := .fields #[.none, .bool false, .ref s.heap.objs.size, rawInt 0, .none, .none] }) (s.heap.objs.size + 1) s.heap.objs.size 0 .none := by
    have := Heap.get?_push_size (s.heap.push { cls := .type "tuple_iterator", data := .fields #[.ref l, .int 0 0] })
      (o := { cls := .type "enumerate", data := .fields #[.none, .bool false, .ref s.heap.objs.size, rawInt 0, .none, .none] }) rfl
    rw [hz] at this; exact this
  refine ⟨⟨_, he, rfl⟩, h _ he ⟨_, Heap.get?_push_of_some _ (Heap.get?_push_size _ rfl), rfl, rfl⟩ (by rw [Heap.size_push, hz]) fun b o x => Heap.get?_push_of_some _ (Heap.get?_push_of_some _ x)⟩
end
/-- the tuple at a as it stands at each turn, each item in a new pair -/
def IteT (K : PySem.W.Frag) (a : Addr) : It :=
  ⟨fun i H => ∃ (xs : List V) (x : V), SqT K H a xs ∧ xs[i]? = some x, fun i H v H' => ∃ T x, v = .ref T ∧ H T = none ∧ H' = upd H T (.tup [.int (i : Nat), x]) ∧ ∀ xs, SqT K H a xs → xs[i]? = some x, fun i H => ∃ xs : List V, SqT K H a xs ∧ xs.length = i⟩
theorem turn_enumT {P : Program} {w : World} {K : PySem.W.Frag} {elts : List Expr} {kk : Nat} {tpos : Pos} (a e it : Addr) (hae : a ≠ e) (hai : a ≠ it) :
    Turn P w K (.Tuple elts kk tpos) (IteT K a) [e, it] e (fun i h => (∃ old, IsEnum h e it ((i : Nat) : Int) old) ∧ h.IsTupleIter it a i ∧ e ≠ it) where
  mem := by simp
  obj := fun i h st b hb => by
    obtain ⟨⟨old, he⟩, ⟨o, ho, hc, hd⟩, _⟩ := st
    have e' : b = e ∨ b = it := by simpa using hb
    rcases e' with z | z
    · rw [z]; exact ⟨_, he, fun v q => nomatch q⟩
    · rw [z]; exact ⟨o, ho, fun v q => by rw [hd] at q; cases q⟩
  keep := fun i h h' st k => let ⟨⟨old, he⟩, hi, hne⟩ := st; ⟨⟨old, k e (by simp) _ he⟩, hi.at fun o q => k it (by simp) o q, hne⟩
  item := by
    intro X hP hw hK hc i pins s σ H E I hf st hg
    subst hP hw hK
    obtain ⟨⟨old, he⟩, hit, hne⟩ := st
    obtain ⟨xs, x, hq, hx⟩ := hg
    obtain ⟨its, rv, p, hz⟩ := I.tuple hq
    obtain ⟨u, hu, ru⟩ := rv.get hx
    have hel : e < s.heap.objs.size := Heap.lt_size he
    have hil : it < s.heap.objs.size := by obtain ⟨_, q, _⟩ := hit; exact Heap.lt_size q
    have hlt : i < its.toArray.size := by
      rw [List.size_toArray]
      exact (List.getElem?_eq_some_iff.mp hu).1
    have p2 : s.heap.IsTuple a its.toArray := p
    refine wpAny_pyNext_enum_itemD (Draws.tuple (A := X.A.in1) (I.ok.hd hc) it a hai its.toArray) he ⟨hit, p2⟩ hlt hne (by simp [hne, Ne.symm hae]) fun y h' tk hy ho hst' hT hsz hk => ?_
    have ey : y = u := by
      have hy' : its.toArray[i]? = some y := hy
      have hu' : its.toArray[i]? = some u := by simpa using hu
      rw [hu'] at hy'
      exact (Option.some.inj hy').symm
    subst ey
    have hit' := hst'.1
    refine ⟨_, rfl, wpAny_letOwnedTupleGo_enum (s := { s with heap := h', toks := tk + 1 }) ho fun h'' he' sb => ?_⟩
    have hT2 : h''.get? s.heap.objs.size = some { cls := .type "tuple", data := .seq #[.int i tk, y] } := (sb.2 _ (Nat.ne_of_gt hel)).trans hT
    have new : ObjOk X.prog X.w (upd H s.heap.objs.size (.tup [.int (i : Nat), x])) h'' s.heap.objs.size (.tup [.int (i : Nat), x]) :=
      ⟨by show 2 ≤ sizeLine; decide, [.int i tk, y], .cons ⟨_, rfl⟩ (.cons ru .nil), ⟨_, hT2, rfl, _, rfl⟩⟩
    have I1 : Inv X pins σ (upd H s.heap.objs.size (.tup [.int (i : Nat), x])) { s with heap := h'', toks := tk + 1 } :=
      I.turnedNew (ch := [e, it]) (fun b ob hb q => (sb.2 b (fun z => hb (by simp [z]))).trans (hk b ob (fun z => hb (by simp [z])) (fun z => hb (by simp [z])) q)) hf (Nat.le_refl _) new
    refine ⟨.ref s.heap.objs.size, _, I1, rfl, ⟨_, x, rfl, I.hok.fresh (Nat.le_refl _), rfl, fun ys hy => by rw [I.tuple_inj hy hq]; exact hx⟩, ⟨⟨y, ?_⟩, hit'.at fun o q => (sb.2 it (Ne.symm hne)).trans q, hne⟩, fun b hb => ?_⟩
    · have e1 : ((i + 1 : Nat) : Int) = (i : Int) + 1 := by omega
      rw [e1]; exact he'
    · have hb' : b < s.heap.objs.size := by
        have e' : b = e ∨ b = it := by simpa using hb
        rcases e' with z | z
        · rw [z]; exact hel
        · rw [z]; exact hil
      rw [upd_ne (Nat.ne_of_lt hb')]
      exact (hf b hb).1
  done := by
    intro X hP hw hK hc i pins s σ H E I hf st hg
    subst hP hw hK
    obtain ⟨⟨old, he⟩, hit, hne⟩ := st
    obtain ⟨xs, hq, hx⟩ := hg
    obtain ⟨its, rv, p, hz⟩ := I.tuple hq
    obtain ⟨f0, f1, f2, f3, f4, f5⟩ := hf it (by simp)
    have hl := rv.length
    have p2 : s.heap.IsTuple a its.toArray := p
    have hsz : its.toArray.size = i := by rw [List.size_toArray, ← hl]; exact hx
    exact wpAny_pyNext_enum_endD (Draws.tuple (A := X.A.in1) (I.ok.hd hc) it a hai its.toArray) he ⟨by rw [hsz]; exact hit, p2⟩ fun h' eb => ⟨rfl, I.turned (t' := s.toks) (fun b o hb q => eb b o hb q) f0 f1 f3 f4 f5⟩
  self := fun A i s Q E st h => let ⟨⟨_, he⟩, _⟩ := st; wpAny_pyIter_enum he h
def iEnumT (K : PySem.W.Frag) (ta : TA) : TI := fun σ H R => ta σ H fun vs H1 => ∃ a xs, vs = [.ref a] ∧ SqT K H1 a xs ∧ R (IteT K a) H1
theorem pi_enumT {X : Cx} {e : Expr} {ta : TA} {p pos tpos : Pos} {elts : List Expr} {kk : Nat} (hg : Gl X "enumerate") (hm : X.mg "enumerate" = none) (ha : PA X [e] ta) (hs : starEach [e] X.env = [(false, eval e X.env)] := by rfl) :
    PI X (.Tuple elts kk tpos) (.Call (.Name "enumerate" p) [e] [] pos) (iEnumT X.K ta) := by
  refine ⟨fun pins s σ H R I h => ?_⟩
  refine Call_ (ld_blt I hg hm boot_enumerate (PyProof.Rows.callWith_type1 (thn (ha.run pos pins s σ H _ I h) fun us s1 ⟨vs, H1, I1, r1, q1⟩ => ?_) hs rfl))
  obtain ⟨a, xs, ex, hq, q⟩ := q1
  subst ex
  cases r1 with
  | cons r rr =>
    cases rr
    cases r
    obtain ⟨its, rv, p', hz⟩ := I1.tuple hq
    have p2 : s1.heap.IsTuple a its.toArray := p'
    have hlt : a < s1.heap.objs.size := by
      obtain ⟨o, ho, _⟩ := p2
      exact Heap.lt_size ho
    refine call_enumerate_tuple p2 fun h' he hit hsz hk => wpAny_pyIter_enum he ?_
    have I2 : Inv X pins σ H1 { s1 with heap := h' } := I1.kept (t' := s1.toks) hk
    refine ⟨s1.heap.objs.size + 1, [s1.heap.objs.size + 1, s1.heap.objs.size], _, _, H1, rfl, I2, turn_enumT a (s1.heap.objs.size + 1) s1.heap.objs.size (Nat.ne_of_lt (Nat.lt_succ_of_lt hlt)) (Nat.ne_of_lt hlt), ⟨⟨.none, he⟩, hit, Nat.succ_ne_self _⟩, fun b hb => ?_, q⟩
    have e' : b = s1.heap.objs.size + 1 ∨ b = s1.heap.objs.size := by simpa using hb
    have hle : s1.heap.objs.size ≤ b := by
      rcases e' with z | z
      · rw [z]; exact Nat.le_add_right _ _
      · rw [z]; exact Nat.le_refl _
    exact I1.fpOk hle (I1.hok.fresh hle)
/-! ### list + list, list * int, of lists that are read -/
section
variable {X : Cx}
def rCatS (K : PySem.W.Frag) : R2 := fun x y H Q => ∃ l b xs zs, x = .ref l ∧ y = .ref b ∧ SqL K H l xs ∧ SqL K H b zs ∧ xs.length + zs.length ≤ sizeLine ∧ ∀ p, H p = none → Q (.ref p) (upd H p (.lst (xs ++ zs)))
theorem op_catS : OpR X (binaryOp .Add) (rCatS X.K) := by
  intro pins s σ H x y v u Q I rx ry h
  obtain ⟨l, b, xs, zs, rfl, rfl, hH, hB, hz, q⟩ := h
  cases rx
  cases ry
  obtain ⟨its, r, p1, z1⟩ := I.list hH
  obtain ⟨its2, r2, p2, z2⟩ := I.list hB
  obtain ⟨⟨cls, dd, data, sl⟩, ho, hc, n, hd⟩ := p1.isList
  obtain ⟨⟨cls2, dd2, data2, sl2⟩, ho2, hc2, n2, hd2⟩ := p2.isList
  simp only at hc hd hc2 hd2
  subst hc hd hc2 hd2
  have e : its.toArray ++ its2.toArray = (its ++ its2).toArray := by simp
  refine concat_meets ⟨_, ho, rfl⟩ ⟨_, ho2, rfl⟩ noFill_list_add seq_list_add PySem.F.slot_list_add PySem.F.entry_list_add (PySem.F.args_list_add_2 _ _) (list_addW l b its.toArray its2.toArray n n2 dd dd2 sl sl2 (by rw [List.size_toArray, List.size_toArray, ← r.length, ← r2.length]; exact hz)) ⟨ho, ho2, ?_⟩
  rw [e]
  exact ⟨.ref _, _, I.lnew (t' := s.toks) (r.append r2) (by rw [List.length_append]; exact hz), rfl, q _ I.fresh⟩
/-! ### repr of data -/
def repKind : PyData → Bool
  | .int _ => true
  | .list _ => true
  | .tuple _ => true
  | _ => false
def rRepr (K : PySem.W.Frag) : List V → Hp → VK → Prop := fun xs H Q => ∃ (v : V) (d : PyData), xs = [v] ∧ Dp K H v d ∧ repKind d = true ∧ d.showable = true ∧ d.hasDict = false ∧ d.depth ≤ 60 ∧ d.shown.length ≤ sizeLine ∧ Q (.str d.shown) H
theorem call_repr_D {n : Nat} (hr : Room n X.A) (hg : X.A.guards = some []) : CallR X (.builtin "repr") (rRepr X.K) := by
  intro pins s σ H xs us Q I r h
  obtain ⟨v, d, rfl, hd, hk, hs, hnd, hdep, hsz, q⟩ := h
  obtain ⟨u, rfl, ru⟩ := vals1 r
  have hun := hr.un
  cases hd with
  | lst hq ha =>
    rename_i a xs ds
    obtain ⟨as, r1⟩ := Dp.reads I _ _ _ (Dp.lst hq ha) ru
    obtain rfl : u = Value.ref a := ru
    exact repr_of_reads' r1 hs (PyData.noDict_hsm hnd) hg (by omega) (fun _ _ e => e) (fun h' u tk hk => ⟨.str _, H, I.kept hk, ⟨u, rfl⟩, q⟩) hsz
  | tup hq ha =>
    rename_i a xs ds
    obtain ⟨as, r1⟩ := Dp.reads I _ _ _ (Dp.tup hq ha) ru
    obtain rfl : u = Value.ref a := ru
    exact repr_of_reads' r1 hs (PyData.noDict_hsm hnd) hg (by omega) (fun _ _ e => e) (fun h' u tk hk => ⟨.str _, H, I.kept hk, ⟨u, rfl⟩, q⟩) hsz
  | int i =>
    obtain ⟨t, rfl⟩ := ru
    refine PySem.P.repr_of_int (by simpa [PyData.showable] using hs) ⟨.str _, H, I.tok _, ⟨_, rfl⟩, ?_⟩
    simpa only [PyData.shown] using q
  | _ => cases hk
end
end NL
set_option maxHeartbeats 2000000
/-! The layer's rules over the machine's own. -/
namespace NL
open PySem PySem.Spec PyProof.Rows L2 StX
section
variable {X : Cx} {C : Addr} {G : List SK} {a b c e : Expr} {es : List Expr} {pos p2 q : Pos} {d d1 d2 d3 : PyData} {ds es' : List PyData} {k1 k2 : Bool} {i : Int}
theorem pd_sumT {ns : List Int} (hc : X.calm = true) (hm : X.mg "sum" = none) (ha : PE X a (tD X.K C G (.tuple (ns.map .int)))) (hg : Gl X "sum" := by rfl) (he : starEach [a] X.env = (false, eval a X.env) :: starEach [] X.env := by rfl) : PE X (.Call (.Name "sum" q) [a] [] pos) (tD X.K C G (.int ns.sum)) :=
  pd_callB (cr_sumT hc) hm (by decide +kernel) (ds_cons ha ds_nil he) (fun Hi H vs Q s h q => by
    cases h with
    | cons h1 h2 =>
      cases h2
      obtain ⟨p, ws, rfl, hs, ha⟩ := dp_tup h1
      obtain rfl := dps_ints ha
      exact ⟨p, ns, rfl, same_t s hs, q _ Hi H (Ext.refl s) (.int _)⟩) hg (by decide) (by decide) he (by rfl)
theorem pd_revT {k : Nat} {p1 p2 p3 : Pos} (he : PE X e (tD X.K C G (.tuple ds))) : PE X (.Subscript e (.Slice none none (some (.UnaryOp .USub (.Constant (.int 1) k p1) p2)) p3) pos) (tD X.K C G (.tuple ds.reverse)) :=
  pe_to (pe_revT he) fun σ H Q ⟨Z, Hi, S, q⟩ => ⟨Z, Hi, S, fun v Hi1 H1 e1 h1 => by
    obtain ⟨p, ws, rfl, hs, ha⟩ := dp_tup h1
    exact ⟨p, ws, rfl, same_t e1.sub hs, fun p' hp => q _ _ _ (e1.trans (Ext.one e1.sub hp)) (new_tup e1.sub (dps_rev ha) hp)⟩⟩
theorem wd_enumT {K : PySem.W.Frag} {Hi : Hp} {p : Addr} {vs : List V} (hs : SqT K Hi p vs) (ha : DpAll K Hi vs ds) : WalkD K (IteT K p) (enumD ds) Hi where
  goes := fun i H hi s => by
    rw [enumD_len] at hi
    obtain ⟨x, hx⟩ := at_some (l := vs) (i := i) (by rw [dps_len ha]; exact hi)
    exact ⟨vs, x, same_t s hs, hx⟩
  stops := fun H s => ⟨vs, same_t s hs, by rw [dps_len ha, enumD_len]⟩
  yields := fun i H Hi2 x H' hi s1 s2 y => by
    obtain ⟨T, z, rfl, hT, rfl, h⟩ := y
    obtain ⟨d, h1, h2⟩ := dps_at ha (h vs (same_t (s1.trans s2) hs))
    obtain ⟨q1, q2⟩ := pair_new s2 (.int (i : Int)) (dp_mono s1 _ _ h2) hT
    exact ⟨_, _, enumD_at h1, q1, q2⟩
theorem di_enumT {tp : Pos} {elts : List Expr} {kk : Nat} (hm : X.mg "enumerate" = none) (h : PE X a (tD X.K C G (.tuple ds))) (hg : Gl X "enumerate" := by rfl) (he : starEach [a] X.env = [(false, eval a X.env)] := by rfl) : PI X (.Tuple elts kk tp) (.Call (.Name "enumerate" q) [a] [] pos) (tDI X.K C G (enumD ds)) :=
  pi_to (pi_enumT hg hm (pa_cons h pa_nil he) he) fun σ H R ⟨Z, Hi, S, q⟩ => ⟨Z, Hi, S, fun v Hi1 H1 e1 h1 => by
    obtain ⟨p, vs, rfl, hs, ha⟩ := dp_tup h1
    exact ⟨p, vs, rfl, same_t e1.sub hs, q _ Hi1 H1 e1 (wd_enumT hs ha)⟩⟩
theorem opd_catL {K : PySem.W.Frag} {es : List PyData} (hl : ds.length + es.length ≤ sizeLine) : OpD K (rCatS K) (.list ds) (.list es) (.list (ds ++ es)) := fun Hi H x y Q s h1 h2 q => by
  obtain ⟨p, vs, rfl, hs, ha⟩ := dp_lst h1
  obtain ⟨p2, ws, rfl, hs2, ha2⟩ := dp_lst h2
  exact ⟨p, p2, vs, ws, rfl, rfl, s.seq hs, s.seq hs2, by rw [dps_len ha, dps_len ha2]; exact hl, fun p' hp => q _ _ _ (Ext.one s hp) (new_lst s (dps_app ha ha2) hp)⟩
theorem pd_catL {es : List PyData} (ha : PE X a (tD X.K C G (.list ds))) (hb : PE X b (tD X.K C G (.list es))) (hl : ds.length + es.length ≤ sizeLine) : PE X (.BinOp a .Add b pos) (tD X.K C G (.list (ds ++ es))) := pd_op op_catS ha hb (opd_catL hl)
/-- [e] * k -/
theorem pd_rep {p1 : Pos} (ha : PE X a (tD X.K C G d)) (hb : PE X b (tD X.K C G (.int i))) (h0 : 0 ≤ i) (h1 : i ≤ 1000000) (hst : starEach [a] X.env = (false, eval a X.env) :: starEach [] X.env := by rfl) : PE X (.BinOp (.List [a] p1) .Mult b pos) (tD X.K C G (.list (List.replicate i.toNat d))) :=
  pe_to (pe_op op_rep (pe_lst (pa_cons ha pa_nil hst)) hb) fun σ H Q ⟨Z, Hi, S, q⟩ => ⟨Z, Hi, S, fun v Hi1 H1 e1 hv => ⟨by show 1 ≤ sizeLine; decide, fun p hp => by
    have E := Ext.one (o := .lst [v]) e1.sub hp
    refine ⟨Z, _, (S.ext e1).ext E, fun w Hi2 H2 e2 hw => ?_⟩
    have sl : sizeLine = 16777216 := sizeLine_eq
    refine ⟨p, i, [v], rfl, dp_int hw, e2.same _ _ upd_same, by omega, by omega, by show 1 * i.toNat ≤ sizeLine; omega, fun p2 hp2 => ?_⟩
    have E3 := (e1.trans E).trans e2
    have hl : DpAll X.K Hi2 [v] [d] := .cons (dp_mono (E.trans e2).up _ _ hv) .nil
    have z := dps_rep hl i.toNat
    have ez : (List.replicate i.toNat [d]).flatten = List.replicate i.toNat d := by
      induction i.toNat with
      | zero => rfl
      | succ n ih => rw [List.replicate_succ, List.flatten_cons, List.replicate_succ, ih]; rfl
    rw [ez] at z
    exact q _ _ _ (E3.trans (Ext.one e2.sub hp2)) (new_lst e2.sub z hp2)⟩⟩
theorem pd_repr {n : Nat} (hr : Room n X.A) (hgd : X.A.guards = some []) (hm : X.mg "repr" = none) (ha : PE X a (tD X.K C G d)) (hk : repKind d = true) (hs : d.showable = true) (hnd : d.hasDict = false) (hdep : d.depth ≤ 60) (hsz : d.shown.length ≤ sizeLine) (hg : Gl X "repr" := by rfl)
    (he : starEach [a] X.env = (false, eval a X.env) :: starEach [] X.env := by rfl) : PE X (.Call (.Name "repr" q) [a] [] pos) (tD X.K C G (.str d.shown)) :=
  pd_callB (call_repr_D hr hgd) hm (by decide +kernel) (ds_cons ha ds_nil he) (fun Hi H vs Q s h q => by
    cases h with
    | cons h1 h2 =>
      cases h2
      exact ⟨_, d, rfl, dp_mono s _ _ h1, hk, hs, hnd, hdep, hsz, q _ Hi H (Ext.refl s) (.str _)⟩) hg (by decide) (by decide) he (by rfl)
end
end NL
set_option maxHeartbeats 2000000
/-! The layer's rules, made handy. -/
namespace NL
open PySem PySem.Spec PyProof.Rows L2 StX
theorem map_at {α β : Type} {f : α → β} {xs : List α} {i : Nat} {d : β} (h : (xs.map f)[i]? = some d) : ∃ x, xs[i]? = some x ∧ d = f x := by
  rw [List.getElem?_map] at h
  cases e : xs[i]? with
  | none => rw [e] at h; cases h
  | some x =>
    rw [e] at h
    exact ⟨x, rfl, (Option.some.inj h).symm⟩
theorem fold_take {α β : Type} {f : β → α → β} {a : β} {xs : List α} {i : Nat} {x : α} (h : xs[i]? = some x) : (xs.take (i + 1)).foldl f a = f ((xs.take i).foldl f a) x := by
  rw [List.take_add_one, h, List.foldl_append]
  rfl
theorem fold_all {α β : Type} {f : β → α → β} {a : β} {xs : List α} : (xs.take xs.length).foldl f a = xs.foldl f a := by rw [List.take_length]
section
variable {X : Cx} {C : Addr} {G : List SK} {a b c e : Expr} {es : List Expr} {pos p2 : Pos} {d d1 d2 d3 : PyData} {ds es' : List PyData} {k1 k2 : Bool} {N : List SK → Prop} {R : PyData → Prop}
/-- x = [..] of one's own -/
theorem sd_newLs (i : Nat) {x : Str} {q q2 : Pos} (hN : X.N.Nodup) (ha : PA X es (tDs X.K C G ds)) (hl : ds.length ≤ sizeLine) (hi : X.N[i]? = some x := by rfl) (hx : Loc X.env.scope x := by first | exact Or.inl rfl | exact Or.inr rfl) (hs : swapsWith (.List es q2) (some (.Name x q)) pos.line X.env = pure false := by rfl)
    (hf : X.fn x = true ∨ X.env.scope.names.lookup x = some .local := by first | exact .inl rfl | exact .inr rfl) : PS X (.Assign [.Name x q] (.List es q2) pos) (tS X.K C G (fun g => g = G.set i (.mls ds)) R) :=
  ps_to (ps_set hN hi hx (pe_lst ha) hs hf) fun D σ H ⟨Z, Hi0, Hi, f, S, q1, q2⟩ => ⟨Z, Hi, S, fun vs Hi1 H1 e1 h1 => ⟨by rw [dps_len h1]; exact hl, fun p hp => by
    have f1 := f.ext e1
    have S1 := S.ext e1
    exact q1 _ _ Hi1 _ rfl e1.up ⟨f1.z.trans (same_new hp), f1.up, f1.new⟩ (S1.setM f1.z hp ⟨p, vs, rfl, upd_same, h1, S1.sub.free hp, f1.z.free hp⟩)⟩⟩
/-- x[j] of a list of one's own -/
theorem pd_ixM (i : Nat) {x : Str} {q1 : Pos} {j : Int} {ix : Expr} (hk : G[i]? = some (.mls ds)) (hj : PE X ix (tD X.K C G (.int j))) (h : atI ds j = some d) (hN : X.N[i]? = some x := by rfl)
    (hv : Vis X.env.scope x := by first | exact Or.inl rfl | exact Or.inr (Or.inl rfl) | exact Or.inr (Or.inr rfl)) (hd : (x == ("__debug__" : Str)) = false := by decide) (hcd : (x == ("__classdict__" : Str)) = false := by decide) (hp : PlainIx ix := by exact fun _ _ => rfl) : PE X (.Subscript (.Name x q1) ix pos) (tD X.K C G d) :=
  pe_to (pe_ix ix_list (pe_var hN hv hd hcd) hj hp) fun σ H Q ⟨Z, Hi, S, q⟩ => by
    obtain ⟨p, vs, h1, h2, h3, h4, h5⟩ := S.ok i _ hk
    refine ⟨.ref p, h1, Z, Hi, S, fun w Hi1 H1 e1 hw => ?_⟩
    obtain ⟨v, hv, hdv⟩ := dps_atI (dps_mono e1.up _ _ h3) h
    exact ⟨p, vs, j, v, rfl, dp_int hw, SqL.of (e1.same _ _ h2), hv, q v Hi1 H1 e1 hdv⟩
/-- len(x) of a list of one's own -/
theorem pd_lenM (i : Nat) {x : Str} {q q1 : Pos} (hm : X.mg "len" = none) (hk : G[i]? = some (.mls ds)) (hN : X.N[i]? = some x := by rfl)
    (hv : Vis X.env.scope x := by first | exact Or.inl rfl | exact Or.inr (Or.inl rfl) | exact Or.inr (Or.inr rfl)) (hd : (x == ("__debug__" : Str)) = false := by decide) (hcd : (x == ("__classdict__" : Str)) = false := by decide) (hg : Gl X "len" := by rfl) (he : starEach [.Name x q1] X.env = (false, eval (.Name x q1) X.env) :: starEach [] X.env := by rfl) :
    PE X (.Call (.Name "len" q) [.Name x q1] [] pos) (tD X.K C G (.int ds.length)) :=
  pe_to (pe_callB call_len_seq hg hm PySem.boot_len (pa_cons (pe_var hN hv hd hcd) pa_nil he) (by decide) (by decide) he (by rfl)) fun σ H Q ⟨Z, Hi, S, q⟩ => by
    obtain ⟨p, vs, h1, h2, h3, h4, h5⟩ := S.ok i _ hk
    refine ⟨.ref p, h1, p, vs, rfl, .inl (SqL.of h2), ?_⟩
    rw [dps_len h3]
    exact q _ Hi H (Ext.refl S.sub) (.int _)
theorem sd_seti' (i : Nat) {x : Str} {q1 q2 : Pos} {j : Int} {k : Nat} {ix : Expr} (hk : G[i]? = some (.mls ds)) (he : PE X e (tD X.K C G d)) (hj : PE X ix (tD X.K C G (.int j))) (hb : ixN ds.length j = some k) (hN : X.N[i]? = some x := by rfl)
    (hv : Vis X.env.scope x := by first | exact Or.inl rfl | exact Or.inr (Or.inl rfl) | exact Or.inr (Or.inr rfl)) (hd : (x == ("__debug__" : Str)) = false := by decide) (hcd : (x == ("__classdict__" : Str)) = false := by decide)
    (hs : swapsWithSole [.Subscript (.Name x q1) ix q2] e pos.line X.env = pure false := by rfl) (hw : swappedStores [.Subscript (.Name x q1) ix q2] e X.env = pure none := by rfl) (h1 : (assignEach [.Subscript (.Name x q1) ix q2] X.env).map (·.2) = [assign (.Subscript (.Name x q1) ix q2) X.env] := by rfl)
    (ha : ∀ v, assign (.Subscript (.Name x q1) ix q2) X.env v = (do
      let ov ← holding [v] (eval (.Name x q1) X.env)
      let iv ← holding [v, ov] (eval ix X.env)
      standAt q2
      holding [v, ov, iv] (setItem ov iv v)
      release [v, ov, iv] []) := by intro _; rfl) :
    PS X (.Assign [.Subscript (.Name x q1) ix q2] e pos) (tS X.K C G (fun g => g = G.set i (.mls (ds.set k d))) R) :=
  sd_seti i hk he hj hb hN hv hd hcd (ps_asg he (pg_sub (pe_var hN hv hd hcd) hj set_list ha) hs hw h1)
theorem sd_app' (i : Nat) {x : Str} {q1 q2 q3 : Pos} (hk : G[i]? = some (.mls ds)) (he : PE X e (tD X.K C G d)) (hl : ds.length < sizeLine) (hN : X.N[i]? = some x := by rfl) (hv : Vis X.env.scope x := by first | exact Or.inl rfl | exact Or.inr (Or.inl rfl) | exact Or.inr (Or.inr rfl)) (hd : (x == ("__debug__" : Str)) = false := by decide)
    (hcd : (x == ("__classdict__" : Str)) = false := by decide)
    (hst : starEach [e] X.env = (false, eval e X.env) :: starEach [] X.env := by rfl)
    (hbase : attributeBase (.Name x q1) "append" X.env (eval (.Name x q1) X.env) = eval (.Name x q1) X.env := by rfl)
    (hfew : ((backTo q3 (starEach [e] X.env)).all (fun x => !x.1) && (backToKw q3 (keywordEach [] X.env)).all (fun x => x.1.isSome)
      && decide (([e] : List Expr).length + ([] : List Keyword).length + (if ([] : List Keyword).isEmpty then 0 else 1) < 30)) = true := by rfl)
    (hline : (q2.endLine == q3.line) = true := by rfl)
    (hs : swapsWith (.Call (.Attribute (.Name x q1) "append" q2) [e] [] q3) none pos.line X.env = pure false := by rfl) :
    PS X (.Expr (.Call (.Attribute (.Name x q1) "append" q2) [e] [] q3) pos) (tS X.K C G (fun g => g = G.set i (.mls (ds ++ [d]))) R) :=
  sd_app i hk he hl hN hv hd hcd hst (pe_bm PySem.F.plainAttrs_list PySem.F.slot_list_append PySem.F.type_list_append mt_append (pe_var hN hv hd hcd) (pa_cons he pa_nil hst) hbase hfew hline hst (by rfl)) hs
theorem sd_dput' (i : Nat) {x : Str} {q1 q2 : Pos} {n : Int} {ix : Expr} {ks : List Int} {m : Nat} (hr : Room m X.A) (hk : G[i]? = some (.mdk ks)) (hl : ks.length < sizeLine) (he : PE X e (tD X.K C G (.bool true))) (hj : PE X ix (tD X.K C G (.int n))) (hN : X.N[i]? = some x := by rfl)
    (hv : Vis X.env.scope x := by first | exact Or.inl rfl | exact Or.inr (Or.inl rfl) | exact Or.inr (Or.inr rfl)) (hd : (x == ("__debug__" : Str)) = false := by decide) (hcd : (x == ("__classdict__" : Str)) = false := by decide)
    (hs : swapsWith e (some (.Subscript (.Name x q1) ix q2)) pos.line X.env = pure false := by rfl) :
    PS X (.Assign [.Subscript (.Name x q1) ix q2] e pos) (tS X.K C G (fun g => g = G.set i (.mdk (insK ks n))) R) :=
  sd_dput i hk hl (ps_dput (by have := hr.units; omega) (pe_var hN hv hd hcd) hj he hs)
theorem sd_par' (i j : Nat) {x y : Str} {px py pt pt2 : Pos} {kt k2 : Nat} (hc : X.calm = true) (hN : X.N.Nodup) (ha : PE X a (tD X.K C G d1)) (hb : PE X b (tD X.K C G d2)) (hij : i ≠ j := by decide) (hi : X.N[i]? = some x := by rfl) (hj : X.N[j]? = some y := by rfl)
    (hx : X.env.scope.names.lookup x = some .local := by rfl) (hy : X.env.scope.names.lookup y = some .local := by rfl) (he : starEach [a, b] X.env = (false, eval a X.env) :: starEach [b] X.env := by rfl) (he2 : starEach [b] X.env = (false, eval b X.env) :: starEach [] X.env := by rfl)
    (hw : swappedStores [.Tuple [.Name x px, .Name y py] kt pt] (.Tuple [a, b] k2 pt2) X.env = pure (some [x, y]) := by rfl)
    (hs : swapsWithSole [.Tuple [.Name x px, .Name y py] kt pt] (.Tuple [a, b] k2 pt2) pos.line X.env = pure false := by rfl) :
    PS X (.Assign [.Tuple [.Name x px, .Name y py] kt pt] (.Tuple [a, b] k2 pt2) pos) (tS X.K C G (fun g => g = (G.set i (.dat d1)).set j (.dat d2)) R) :=
  sd_par i j hc hN ha hb hij hi hj hx hy he he2 (ps_par hc hN hi hj hij hx hy (ds_cons ha (ds_cons hb ds_nil he2) he) hw hs)
theorem sd_parL' (i j : Nat) {x y : Str} {px py pt pt2 q2 : Pos} {kt k2 : Nat} (hc : X.calm = true) (hN : X.N.Nodup) (hb : PE X b (tD X.K C G d2)) (hij : i ≠ j := by decide) (hi : X.N[i]? = some x := by rfl) (hj : X.N[j]? = some y := by rfl)
    (hx : X.env.scope.names.lookup x = some .local := by rfl) (hy : X.env.scope.names.lookup y = some .local := by rfl) (he : starEach [.List [] q2, b] X.env = (false, eval (.List [] q2) X.env) :: starEach [b] X.env := by rfl) (he2 : starEach [b] X.env = (false, eval b X.env) :: starEach [] X.env := by rfl)
    (hw : swappedStores [.Tuple [.Name x px, .Name y py] kt pt] (.Tuple [.List [] q2, b] k2 pt2) X.env = pure (some [x, y]) := by rfl)
    (hs : swapsWithSole [.Tuple [.Name x px, .Name y py] kt pt] (.Tuple [.List [] q2, b] k2 pt2) pos.line X.env = pure false := by rfl) :
    PS X (.Assign [.Tuple [.Name x px, .Name y py] kt pt] (.Tuple [.List [] q2, b] k2 pt2) pos) (tS X.K C G (fun g => g = (G.set i (.mls [])).set j (.dat d2)) R) :=
  ps_to (ps_par hc hN hi hj hij hx hy (pa_cons (pe_lst pa_nil) (pa_cons hb pa_nil he2) he) hw hs) fun D σ H ⟨Z, Hi0, Hi, f, S, q1, q2⟩ => ⟨Nat.zero_le _, fun p hp => by
    have E0 : Ext Hi H Hi (upd H p (.lst [])) := Ext.grow S.sub (same_new hp)
    refine ⟨Z, Hi, S.ext E0, fun v Hi1 H1 e1 h1 => ⟨_, _, rfl, ?_⟩⟩
    have f0 : Fr Z Hi0 Hi (upd H p (.lst [])) := ⟨f.z.trans (same_new hp), f.up, f.new⟩
    have S1 : SlotsOk X.K C Z Hi (upd H p (.lst [])) (σ.set i (some (.ref p))) (G.set i (.mls [])) := S.setM f.z hp ⟨p, [], rfl, upd_same, .nil, S.sub.free hp, f.z.free hp⟩
    exact q1 _ _ Hi1 H1 rfl e1.up (f0.ext e1) ((S1.ext e1).setD h1)⟩
/-- a target (of names) = e, stored in turn -/
theorem sd_asg {pt : Pt} {tg : Expr} {G' : List SK} (he : PE X e (tD X.K C G d)) (hg : PG X tg (gPt X.K pt)) (hb : BindG pt d G G') (hs : swapsWithSole [tg] e pos.line X.env = pure false := by rfl) (hw : swappedStores [tg] e X.env = pure none := by rfl)
    (h1 : (assignEach [tg] X.env).map (·.2) = [assign tg X.env] := by rfl) : PS X (.Assign [tg] e pos) (tS X.K C G (fun g => g = G') R) :=
  ps_to (ps_asg he hg hs hw h1) fun D σ H ⟨Z, Hi0, Hi, f, S, q1, q2⟩ => ⟨Z, Hi, S, fun v Hi1 H1 e1 hv => g_bind (S.ext e1) hv hb fun σ' S' => q1 _ _ Hi1 H1 rfl e1.up (f.ext e1) S'⟩
end
end NL
set_option maxHeartbeats 2000000
/-! The plain law: polynomials by a prime, Lagrange, mail. No program in sight. -/
namespace NLM
/-! ### residues -/
def PR : List Int := [11, 13, 17, 19, 23]
theorem pr_pos {p : Int} (h : p ∈ PR) : 11 ≤ p ∧ p ≤ 23 := by
  unfold PR at h
  simp only [List.mem_cons, List.not_mem_nil, or_false] at h
  omega
/-- congruent -/
def Cg (p a b : Int) : Prop := a % p = b % p
theorem Cg.refl (p a : Int) : Cg p a a := rfl
theorem Cg.symm {p a b : Int} (h : Cg p a b) : Cg p b a := Eq.symm h
theorem Cg.trans {p a b c : Int} (h : Cg p a b) (h' : Cg p b c) : Cg p a c := Eq.trans h h'
theorem Cg.add {p a b c d : Int} (h : Cg p a b) (h' : Cg p c d) : Cg p (a + c) (b + d) := by
  unfold Cg at *
  rw [Int.add_emod, h, h', ← Int.add_emod]
theorem Cg.mul {p a b c d : Int} (h : Cg p a b) (h' : Cg p c d) : Cg p (a * c) (b * d) := by
  unfold Cg at *
  rw [Int.mul_emod, h, h', ← Int.mul_emod]
theorem Cg.sub {p a b c d : Int} (h : Cg p a b) (h' : Cg p c d) : Cg p (a - c) (b - d) := by
  unfold Cg at *
  rw [Int.sub_emod, h, h', ← Int.sub_emod]
theorem Cg.mod (p a : Int) : Cg p (a % p) a := Int.emod_emod_of_dvd a (Int.dvd_refl p)
theorem Cg.of_eq {p a b : Int} (h : a = b) : Cg p a b := by rw [h]; exact Cg.refl p b
theorem Cg.eq {p a b : Int} (h : Cg p a b) (ha : 0 ≤ a ∧ a < p) (hb : 0 ≤ b ∧ b < p) : a = b := by
  unfold Cg at h
  rw [Int.emod_eq_of_lt ha.1 ha.2, Int.emod_eq_of_lt hb.1 hb.2] at h
  exact h
theorem Cg.zero_of_sub {p a b : Int} (h : Cg p (a - b) 0) : Cg p a b := by
  have z : Cg p (a - b + b) (0 + b) := Cg.add h (Cg.refl p b)
  rw [Int.sub_add_cancel, Int.zero_add] at z
  exact z
theorem Cg.sub_zero {p a b : Int} (h : Cg p a b) : Cg p (a - b) 0 := by
  have z : Cg p (a - b) (b - b) := Cg.sub h (Cg.refl p b)
  rw [Int.sub_self] at z
  exact z
theorem res_prime : ∀ p ∈ [11, 13, 17, 19, 23], ∀ i < p, ∀ j < p, (i * j) % p = 0 → i = 0 ∨ j = 0 := by decide +kernel
theorem res_inv : ∀ p ∈ [11, 13, 17, 19, 23], ∀ i < p, i ≠ 0 → ∃ j, j < p ∧ j ≠ 0 ∧ (j * i) % p = 1 := by decide +kernel
theorem pr_nat {p : Int} (h : p ∈ PR) : p.toNat ∈ [11, 13, 17, 19, 23] ∧ ((p.toNat : Nat) : Int) = p := by
  unfold PR at h
  simp only [List.mem_cons, List.not_mem_nil, or_false] at h
  rcases h with rfl | rfl | rfl | rfl | rfl <;> exact ⟨by decide, rfl⟩
/-- no product of two that are not nought is nought -/
theorem cg_prime {p a b : Int} (hp : p ∈ PR) (h : Cg p (a * b) 0) : Cg p a 0 ∨ Cg p b 0 := by
  obtain ⟨h1, h2⟩ := pr_nat hp
  obtain ⟨l, u⟩ := pr_pos hp
  have e : ((a % p) * (b % p)) % p = 0 := by
    unfold Cg at h
    rw [Int.mul_emod, Int.zero_emod] at h
    exact h
  have a0 := Int.emod_nonneg a (show p ≠ 0 by omega)
  have a1 := Int.emod_lt_of_pos a (show 0 < p by omega)
  have b0 := Int.emod_nonneg b (show p ≠ 0 by omega)
  have b1 := Int.emod_lt_of_pos b (show 0 < p by omega)
  have key := res_prime p.toNat h1 (a % p).toNat (by omega) (b % p).toNat (by omega) (by
    have z : ((((a % p).toNat * (b % p).toNat) % p.toNat : Nat) : Int) = 0 := by
      rw [Int.natCast_emod, Int.natCast_mul, Int.toNat_of_nonneg a0, Int.toNat_of_nonneg b0, h2]
      exact e
    omega)
  unfold Cg
  rw [Int.zero_emod]
  omega
theorem cg_inv {p a : Int} (hp : p ∈ PR) (h : ¬ Cg p a 0) : ∃ j, 1 ≤ j ∧ j < p ∧ (j * a) % p = 1 := by
  obtain ⟨h1, h2⟩ := pr_nat hp
  obtain ⟨l, u⟩ := pr_pos hp
  have a0 := Int.emod_nonneg a (show p ≠ 0 by omega)
  have a1 := Int.emod_lt_of_pos a (show 0 < p by omega)
  have hne : a % p ≠ 0 := fun q => h (by unfold Cg; rw [q, Int.zero_emod])
  obtain ⟨j, hj, hj0, e⟩ := res_inv p.toNat h1 (a % p).toNat (by omega) (by omega)
  refine ⟨(j : Int), by omega, by omega, ?_⟩
  have z : ((j * (a % p).toNat % p.toNat : Nat) : Int) = 1 := by rw [e]; rfl
  rw [Int.natCast_emod, Int.natCast_mul, Int.toNat_of_nonneg a0, h2] at z
  have w : Cg p (j * (a % p)) (j * a) := Cg.mul (Cg.refl p j) (Cg.mod p a)
  unfold Cg at w
  rw [← w]
  exact z
/-- the integers from 1 to below p that times s leave 1 -/
def inverses (p s : Int) : List Int := ((List.range (p - 1).toNat).map fun (i : Nat) => 1 + (i : Int)).filter fun o => decide ((o * s) % p = 1)
def inverseIn (p s : Int) : Int := (inverses p s).headD 0
theorem inverses_ne {p a : Int} (hp : p ∈ PR) (h : ¬ Cg p a 0) : inverses p a ≠ [] := by
  obtain ⟨j, h1, h2, h3⟩ := cg_inv hp h
  intro e
  have m : j ∈ inverses p a := by
    unfold inverses
    rw [List.mem_filter, List.mem_map]
    refine ⟨⟨(j - 1).toNat, ?_, by omega⟩, decide_eq_true h3⟩
    rw [List.mem_range]
    omega
  rw [e] at m
  cases m
theorem inverseIn_mem {p a : Int} (h : inverses p a ≠ []) : inverseIn p a ∈ inverses p a := by
  unfold inverseIn
  cases e : inverses p a with
  | nil => exact absurd e h
  | cons x r => exact List.mem_cons_self
theorem inverseIn_spec {p a : Int} (h : inverses p a ≠ []) : 1 ≤ inverseIn p a ∧ inverseIn p a < p ∧ (inverseIn p a * a) % p = 1 := by
  have m := inverseIn_mem h
  unfold inverses at m
  rw [List.mem_filter, List.mem_map] at m
  obtain ⟨⟨i, hi, e⟩, h2⟩ := m
  rw [List.mem_range] at hi
  exact ⟨by omega, by omega, of_decide_eq_true h2⟩
theorem inverses_cg {p a b : Int} (h : Cg p a b) : inverses p a = inverses p b := by
  unfold inverses
  refine List.filter_congr fun o _ => ?_
  have z : (o * a) % p = (o * b) % p := Cg.mul (Cg.refl p o) h
  rw [z]
theorem inverseIn_cg {p a b : Int} (h : Cg p a b) : inverseIn p a = inverseIn p b := by
  unfold inverseIn
  rw [inverses_cg h]
/-! ### values of blocks -/
def ev : List Int → Int → Int
  | [], _ => 0
  | a :: r, x => a + x * ev r x
/-- the program's -/
def valueIn (p : Int) (xs : List Int) (x : Int) : Int := xs.reverse.foldl (fun f o => (f * x + o) % p) 0
theorem valueIn_ev {p : Int} : ∀ (xs : List Int) (x : Int), valueIn p xs x = ev xs x % p
  | [], x => by
    show (0 : Int) = 0 % p
    rw [Int.zero_emod]
  | a :: r, x => by
    unfold valueIn
    rw [List.reverse_cons, List.foldl_append]
    show ((r.reverse.foldl (fun f o => (f * x + o) % p) 0) * x + a) % p = (a + x * ev r x) % p
    have ih := valueIn_ev (p := p) r x
    unfold valueIn at ih
    rw [ih]
    exact Cg.trans (Cg.add (Cg.mul (Cg.mod p _) (Cg.refl p x)) (Cg.refl p a)) (Cg.of_eq (by rw [Int.mul_comm, Int.add_comm]))
/-- the law's -/
def lawPow (x : Int) (xs : List Int) (s : Int × Int) : Int × Int := xs.foldl (fun s o => (s.1 + o * s.2, s.2 * x)) s
def lawValue (p : Int) (xs : List Int) (x : Int) : Int := (lawPow x xs (0, 1)).1 % p
theorem lawPow_ev (x : Int) : ∀ (xs : List Int) (s : Int × Int), (lawPow x xs s).1 = s.1 + s.2 * ev xs x
  | [], s => by
    show s.1 = s.1 + s.2 * 0
    omega
  | a :: r, s => by
    show (lawPow x r (s.1 + a * s.2, s.2 * x)).1 = s.1 + s.2 * (a + x * ev r x)
    rw [lawPow_ev x r]
    show s.1 + a * s.2 + s.2 * x * ev r x = s.1 + s.2 * (a + x * ev r x)
    rw [Int.mul_add, Int.mul_assoc, Int.mul_comm a, Int.add_assoc]
theorem lawValue_ev (p : Int) (xs : List Int) (x : Int) : lawValue p xs x = ev xs x % p := by
  unfold lawValue
  rw [lawPow_ev]
  show (0 + 1 * ev xs x) % p = _
  rw [Int.zero_add, Int.one_mul]
theorem value_same (p : Int) (xs : List Int) (x : Int) : lawValue p xs x = valueIn p xs x := by rw [lawValue_ev, valueIn_ev]
theorem ev_cg {p : Int} (x : Int) : ∀ {xs ys : List Int}, xs.length = ys.length → (∀ (i : Nat) (a b : Int), xs[i]? = some a → ys[i]? = some b → Cg p a b) → Cg p (ev xs x) (ev ys x)
  | [], [], _, _ => Cg.refl p _
  | [], _ :: _, h, _ => by cases h
  | _ :: _, [], h, _ => by cases h
  | a :: r, b :: t, h, k => Cg.add (k 0 a b rfl rfl) (Cg.mul (Cg.refl p x) (ev_cg x (by simpa using h) fun i a b h1 h2 => k (i + 1) a b h1 h2))
/-! ### times a root -/
/-- the program's, as the loop does it -/
def timesRoot (p : Int) (b : List Int) (r : Int) : List Int := b.zipIdx.foldl (fun f (q : Int × Nat) => f.set q.2 ((f.getD q.2 0 - r * q.1) % p)) (0 :: b)
/-- the same, plain: c the sign ahead -/
def troot (p r : Int) : Int → List Int → List Int
  | c, [] => [c]
  | c, a :: t => ((c - r * a) % p) :: troot p r a t
theorem troot_len (p r : Int) : ∀ (c : Int) (b : List Int), (troot p r c b).length = b.length + 1
  | _, [] => rfl
  | c, a :: t => by
    show (troot p r a t).length + 1 = _
    rw [troot_len p r a t] <;> rfl
theorem timesRoot_fold (p r : Int) : ∀ (b : List Int) (pre : List Int) (c : Int), (b.zipIdx pre.length).foldl (fun f (q : Int × Nat) => f.set q.2 ((f.getD q.2 0 - r * q.1) % p)) (pre ++ c :: b) = pre ++ troot p r c b
  | [], pre, c => rfl
  | a :: t, pre, c => by
    rw [List.zipIdx_cons, List.foldl_cons]
    have e1 : (pre ++ c :: a :: t).getD pre.length 0 = c := by
      rw [List.getD_eq_getElem?_getD, List.getElem?_append_right (Nat.le_refl _), Nat.sub_self]
      rfl
    have e2 : (pre ++ c :: a :: t).set pre.length ((c - r * a) % p) = (pre ++ [(c - r * a) % p]) ++ a :: t := by
      rw [List.set_append_right _ _ (Nat.le_refl _), Nat.sub_self, List.append_assoc]
      rfl
    show List.foldl _ ((pre ++ c :: a :: t).set pre.length (((pre ++ c :: a :: t).getD pre.length 0 - r * a) % p)) (t.zipIdx (pre.length + 1)) = _
    rw [e1, e2]
    have ih := timesRoot_fold p r t (pre ++ [(c - r * a) % p]) a
    rw [List.length_append, List.length_singleton] at ih
    rw [ih, List.append_assoc]
    rfl
theorem timesRoot_eq (p : Int) (b : List Int) (r : Int) : timesRoot p b r = troot p r 0 b := timesRoot_fold p r b [] 0
theorem troot_ev {p r x : Int} : ∀ (b : List Int) (c : Int), Cg p (ev (troot p r c b) x) (c + ev b x * (x - r))
  | [], c => Cg.of_eq (by
    show c + x * 0 = c + 0 * (x - r)
    rw [Int.mul_zero, Int.zero_mul])
  | a :: t, c => by
    show Cg p ((c - r * a) % p + x * ev (troot p r a t) x) (c + (a + x * ev t x) * (x - r))
    refine Cg.trans (Cg.add (Cg.mod p _) (Cg.mul (Cg.refl p x) (troot_ev t a))) (Cg.of_eq ?_)
    rw [Int.mul_add x a, Int.add_mul, Int.mul_sub a, Int.mul_comm x a, Int.mul_comm r a, Int.mul_assoc x]
    omega
theorem timesRoot_ev {p r x : Int} (b : List Int) : Cg p (ev (timesRoot p b r) x) (ev b x * (x - r)) := by
  rw [timesRoot_eq]
  refine Cg.trans (troot_ev b 0) (Cg.of_eq ?_)
  rw [Int.zero_add]
theorem timesRoot_len (p : Int) (b : List Int) (r : Int) : (timesRoot p b r).length = b.length + 1 := by rw [timesRoot_eq, troot_len]
/-! ### the block through some points -/
abbrev Pts := List (Int × Int)
/-- the program's inner loop: the block with roots at all others, and its value at one -/
def bstep (p one : Int) (s : List Int × Int) (q : Int × Int) : List Int × Int := if q.1 ≠ one then (timesRoot p s.1 q.1, (s.2 * (one - q.1)) % p) else s
def basis (p : Int) (pts : Pts) (one : Int) : List Int × Int := pts.foldl (bstep p one) ([1], 1)
def factor (p : Int) (pts : Pts) (q : Int × Int) : Int := (q.2 * inverseIn p (basis p pts q.1).2) % p
def tstep (p : Int) (pts : Pts) (found : List Int) (q : Int × Int) : List Int := (found.zip (basis p pts q.1).1).map fun z => (z.1 + factor p pts q * z.2) % p
def throughIn (p : Int) (pts : Pts) : List Int := pts.foldl (tstep p pts) (List.replicate pts.length 0)
/-- products over the others -/
def prodO (one x : Int) (pts : Pts) : Int := pts.foldl (fun t q => if q.1 ≠ one then t * (x - q.1) else t) 1
theorem foldl_mul (one x : Int) : ∀ (pts : Pts) (c : Int), pts.foldl (fun t (q : Int × Int) => if q.1 ≠ one then t * (x - q.1) else t) c = c * prodO one x pts
  | [], c => by
    show c = c * 1
    rw [Int.mul_one]
  | q :: r, c => by
    unfold prodO
    rw [List.foldl_cons, List.foldl_cons, foldl_mul one x r, foldl_mul one x r (if q.1 ≠ one then 1 * (x - q.1) else 1)]
    by_cases h : q.1 ≠ one
    · rw [if_pos h, if_pos h, Int.one_mul, Int.mul_assoc]
    · rw [if_neg h, if_neg h, Int.one_mul]
theorem prodO_cons (one x : Int) (q : Int × Int) (r : Pts) : prodO one x (q :: r) = (if q.1 ≠ one then (x - q.1) else 1) * prodO one x r := by
  unfold prodO
  rw [List.foldl_cons, foldl_mul]
  by_cases h : q.1 ≠ one
  · rw [if_pos h, if_pos h, Int.one_mul]
    rfl
  · rw [if_neg h, if_neg h]
    rfl
theorem basis_fold {p one x : Int} : ∀ (pts : Pts) (s : List Int × Int), Cg p (ev (pts.foldl (bstep p one) s).1 x) (ev s.1 x * prodO one x pts) ∧ Cg p (pts.foldl (bstep p one) s).2 (s.2 * prodO one one pts)
  | [], s => by
    refine ⟨Cg.of_eq ?_, Cg.of_eq ?_⟩
    · show ev s.1 x = ev s.1 x * 1
      rw [Int.mul_one]
    · show s.2 = s.2 * 1
      rw [Int.mul_one]
  | q :: r, s => by
    obtain ⟨h1, h2⟩ := basis_fold (p := p) (one := one) (x := x) r (bstep p one s q)
    rw [List.foldl_cons, prodO_cons, prodO_cons]
    by_cases h : q.1 ≠ one
    · have e : bstep p one s q = (timesRoot p s.1 q.1, (s.2 * (one - q.1)) % p) := if_pos h
      rw [e] at h1 h2 ⊢
      rw [if_pos h, if_pos h, ← Int.mul_assoc, ← Int.mul_assoc]
      exact ⟨h1.trans (Cg.mul (timesRoot_ev s.1) (Cg.refl p _)), h2.trans (Cg.mul (Cg.mod p _) (Cg.refl p _))⟩
    · have e : bstep p one s q = s := if_neg h
      rw [e] at h1 h2 ⊢
      rw [if_neg h, if_neg h, Int.one_mul, Int.one_mul]
      exact ⟨h1, h2⟩
theorem basis_ev {p : Int} (pts : Pts) (one x : Int) : Cg p (ev (basis p pts one).1 x) (prodO one x pts) := by
  refine (basis_fold pts ([1], 1)).1.trans (Cg.of_eq ?_)
  show (1 + x * 0) * prodO one x pts = prodO one x pts
  rw [Int.mul_zero, Int.add_zero, Int.one_mul]
theorem basis_bot {p : Int} (pts : Pts) (one : Int) : Cg p (basis p pts one).2 (prodO one one pts) := by
  refine (basis_fold (x := one) pts ([1], 1)).2.trans (Cg.of_eq ?_)
  show 1 * prodO one one pts = prodO one one pts
  rw [Int.one_mul]
/-- the bottom lies among the residues -/
theorem bot_fold {p one : Int} (hp : 1 < p) : ∀ (pts : Pts) (s : List Int × Int), 0 ≤ s.2 ∧ s.2 < p → 0 ≤ (pts.foldl (bstep p one) s).2 ∧ (pts.foldl (bstep p one) s).2 < p
  | [], s, h => h
  | q :: r, s, h => by
    rw [List.foldl_cons]
    refine bot_fold hp r _ ?_
    unfold bstep
    by_cases e : q.1 ≠ one
    · rw [if_pos e]
      exact ⟨Int.emod_nonneg _ (by omega), Int.emod_lt_of_pos _ (by omega)⟩
    · rw [if_neg e]
      exact h
theorem bot_range {p : Int} (hp : 1 < p) (pts : Pts) (one : Int) : 0 ≤ (basis p pts one).2 ∧ (basis p pts one).2 < p := bot_fold hp pts ([1], 1) ⟨by show (0 : Int) ≤ 1; omega, by show (1 : Int) < p; omega⟩
theorem basis_len {p one : Int} : ∀ (pts : Pts) (s : List Int × Int), (pts.foldl (bstep p one) s).1.length = s.1.length + (pts.filter fun q => decide (q.1 ≠ one)).length
  | [], s => rfl
  | q :: r, s => by
    rw [List.foldl_cons, basis_len r]
    unfold bstep
    by_cases h : q.1 ≠ one
    · rw [if_pos h, List.filter_cons, if_pos (decide_eq_true h), List.length_cons]
      show (timesRoot p s.1 q.1).length + _ = _
      rw [timesRoot_len]
      omega
    · rw [if_neg h, List.filter_cons, if_neg (by rw [decide_eq_false h]; exact Bool.false_ne_true)]
/-- the first ones are unlike -/
def Unlike (pts : Pts) : Prop := (pts.map (·.1)).Nodup
theorem others_len : ∀ {pts : Pts} {q : Int × Int}, Unlike pts → q ∈ pts → (pts.filter fun z => decide (z.1 ≠ q.1)).length + 1 = pts.length
  | [], _, _, h => by cases h
  | a :: r, q, u, h => by
    have u' : a.1 ∉ r.map (·.1) ∧ (r.map (·.1)).Nodup := List.nodup_cons.mp u
    by_cases e : a.1 ≠ q.1
    · rw [List.filter_cons, if_pos (decide_eq_true e)]
      have hm : q ∈ r := by
        rcases List.mem_cons.mp h with z | z
        · exact absurd (by rw [z]) e
        · exact z
      rw [List.length_cons, List.length_cons, others_len (pts := r) u'.2 hm]
    · rw [List.filter_cons, if_neg (by rw [decide_eq_false e]; exact Bool.false_ne_true)]
      have e' : a.1 = q.1 := Decidable.not_not.mp e
      have all : r.filter (fun z => decide (z.1 ≠ q.1)) = r := by
        refine List.filter_eq_self.mpr fun z hz => decide_eq_true fun y => u'.1 ?_
        rw [e', ← y]
        exact List.mem_map.mpr ⟨z, hz, rfl⟩
      rw [all, List.length_cons]
theorem basis_length {p : Int} {pts : Pts} {q : Int × Int} (u : Unlike pts) (h : q ∈ pts) : (basis p pts q.1).1.length = pts.length := by
  unfold basis
  rw [basis_len]
  have z := others_len u h
  show 1 + _ = _
  omega
theorem ev_zip {p f x : Int} : ∀ (xs ys : List Int), xs.length = ys.length → Cg p (ev ((xs.zip ys).map fun z => (z.1 + f * z.2) % p) x) (ev xs x + f * ev ys x)
  | [], [], _ => Cg.of_eq (by
    show (0 : Int) = 0 + f * 0
    omega)
  | [], _ :: _, h => by cases h
  | _ :: _, [], h => by cases h
  | a :: r, b :: t, h => by
    show Cg p ((a + f * b) % p + x * ev ((r.zip t).map fun z => (z.1 + f * z.2) % p) x) (a + x * ev r x + f * (b + x * ev t x))
    refine Cg.trans (Cg.add (Cg.mod p _) (Cg.mul (Cg.refl p x) (ev_zip r t (by simpa using h)))) (Cg.of_eq ?_)
    rw [Int.mul_add x, Int.mul_add f, Int.mul_left_comm x f]
    omega
/-- the sum that both reckon -/
def lag (p : Int) (pts : Pts) (x : Int) (l : Pts) : Int := l.foldl (fun g q => g + factor p pts q * prodO q.1 x pts) 0
theorem foldl_sum (g : Int × Int → Int) : ∀ (l : Pts) (c : Int), l.foldl (fun s q => s + g q) c = c + l.foldl (fun s q => s + g q) 0
  | [], c => by
    show c = c + 0
    omega
  | q :: r, c => by
    rw [List.foldl_cons, List.foldl_cons, foldl_sum g r, foldl_sum g r (0 + g q)]
    omega
theorem through_fold {p x : Int} {pts : Pts} (u : Unlike pts) : ∀ (l : Pts) (f : List Int), (∀ q, q ∈ l → q ∈ pts) → f.length = pts.length → (l.foldl (tstep p pts) f).length = pts.length ∧ Cg p (ev (l.foldl (tstep p pts) f) x) (ev f x + lag p pts x l)
  | [], f, _, hl => ⟨hl, Cg.of_eq (by
    show ev f x = ev f x + 0
    omega)⟩
  | q :: r, f, hm, hl => by
    have hb := basis_length (p := p) u (hm q List.mem_cons_self)
    have h1 : (tstep p pts f q).length = pts.length := by
      unfold tstep
      rw [List.length_map, List.length_zip, hb, hl]
      omega
    obtain ⟨k1, k2⟩ := through_fold (p := p) (x := x) u r (tstep p pts f q) (fun z hz => hm z (List.mem_cons_of_mem _ hz)) h1
    rw [List.foldl_cons]
    refine ⟨k1, k2.trans ?_⟩
    have e : lag p pts x (q :: r) = factor p pts q * prodO q.1 x pts + lag p pts x r := by
      unfold lag
      rw [List.foldl_cons, foldl_sum]
      omega
    rw [e, ← Int.add_assoc]
    refine Cg.add ?_ (Cg.refl p _)
    exact (ev_zip f _ (by rw [hb, hl])).trans (Cg.add (Cg.refl p _) (Cg.mul (Cg.refl p _) (basis_ev pts q.1 x)))
theorem ev_zeros (x : Int) : ∀ n, ev (List.replicate n 0) x = 0
  | 0 => rfl
  | n + 1 => by
    show 0 + x * ev (List.replicate n 0) x = 0
    rw [ev_zeros x n, Int.mul_zero] <;> rfl
theorem through_len {p : Int} {pts : Pts} (u : Unlike pts) : (throughIn p pts).length = pts.length := (through_fold (p := p) (x := 0) u pts _ (fun _ h => h) (List.length_replicate ..)).1
theorem through_ev {p : Int} {pts : Pts} (u : Unlike pts) (x : Int) : Cg p (ev (throughIn p pts) x) (lag p pts x pts) := by
  refine (through_fold (p := p) (x := x) u pts _ (fun _ h => h) (List.length_replicate ..)).2.trans (Cg.of_eq ?_)
  rw [ev_zeros, Int.zero_add]
theorem tstep_range {p : Int} (hp : 0 < p) {pts : Pts} : ∀ (l : Pts) (f : List Int), (∀ a ∈ f, 0 ≤ a ∧ a < p) → ∀ a ∈ l.foldl (tstep p pts) f, 0 ≤ a ∧ a < p
  | [], _, h => h
  | q :: r, f, _ => by
    rw [List.foldl_cons]
    refine tstep_range hp r _ fun a ha => ?_
    unfold tstep at ha
    obtain ⟨z, _, e⟩ := List.mem_map.mp ha
    rw [← e]
    exact ⟨Int.emod_nonneg _ (by omega), Int.emod_lt_of_pos _ hp⟩
theorem through_range {p : Int} (hp : 0 < p) (pts : Pts) : ∀ a ∈ throughIn p pts, 0 ≤ a ∧ a < p :=
  tstep_range hp pts _ fun a ha => by
    rw [List.eq_of_mem_replicate ha]
    omega
/-! ### the law's value between -/
def lstep (x one : Int) (s : Int × Int) (q : Int × Int) : Int × Int := if q.1 ≠ one then (s.1 * (x - q.1), s.2 * (one - q.1)) else s
def lawTB (pts : Pts) (x : Int) (q : Int × Int) : Int × Int := pts.foldl (lstep x q.1) (q.2, 1)
def lawTerm (p : Int) (pts : Pts) (x : Int) (q : Int × Int) : Int := (lawTB pts x q).1 * inverseIn p ((lawTB pts x q).2 % p)
def lawBetween (p : Int) (pts : Pts) (x : Int) : Int := pts.foldl (fun g q => g + lawTerm p pts x q) 0 % p
theorem lawTB_fold (x one : Int) : ∀ (pts : Pts) (s : Int × Int), pts.foldl (lstep x one) s = (s.1 * prodO one x pts, s.2 * prodO one one pts)
  | [], s => by
    show s = (s.1 * 1, s.2 * 1)
    rw [Int.mul_one, Int.mul_one]
  | q :: r, s => by
    rw [List.foldl_cons, lawTB_fold x one r, prodO_cons, prodO_cons]
    unfold lstep
    by_cases h : q.1 ≠ one
    · rw [if_pos h, if_pos h, if_pos h, Int.mul_assoc, Int.mul_assoc]
    · rw [if_neg h, if_neg h, if_neg h, Int.one_mul, Int.one_mul]
theorem lawTerm_cg {p : Int} (pts : Pts) (x : Int) (q : Int × Int) : Cg p (lawTerm p pts x q) (factor p pts q * prodO q.1 x pts) := by
  unfold lawTerm lawTB factor
  rw [lawTB_fold]
  show Cg p (q.2 * prodO q.1 x pts * inverseIn p ((1 * prodO q.1 q.1 pts) % p)) _
  have e : inverseIn p ((1 * prodO q.1 q.1 pts) % p) = inverseIn p (basis p pts q.1).2 := inverseIn_cg ((Cg.mod p _).trans ((Cg.of_eq (Int.one_mul _)).trans (basis_bot pts q.1).symm))
  rw [e]
  refine Cg.symm (Cg.trans (Cg.mul (Cg.mod p _) (Cg.refl p _)) (Cg.of_eq ?_))
  rw [Int.mul_right_comm]
theorem foldl_cg {p : Int} {f g : Int × Int → Int} : ∀ (l : Pts) (c d : Int), Cg p c d → (∀ q ∈ l, Cg p (f q) (g q)) → Cg p (l.foldl (fun s q => s + f q) c) (l.foldl (fun s q => s + g q) d)
  | [], _, _, h, _ => h
  | q :: r, c, d, h, k => by
    rw [List.foldl_cons, List.foldl_cons]
    exact foldl_cg r _ _ (Cg.add h (k q List.mem_cons_self)) fun z hz => k z (List.mem_cons_of_mem _ hz)
/-- the program's value of its block is the law's value between -/
theorem between_same {p : Int} {pts : Pts} (u : Unlike pts) (x : Int) : lawBetween p pts x = valueIn p (throughIn p pts) x := by
  rw [valueIn_ev]
  show Cg p (pts.foldl (fun g q => g + lawTerm p pts x q) 0) (ev (throughIn p pts) x)
  exact (foldl_cg pts 0 0 (Cg.refl p 0) fun q _ => lawTerm_cg pts x q).trans (through_ev u x).symm
/-! ### points that are good: a prime, the first ones unlike, from 1 to 8 -/
structure Good (p : Int) (pts : Pts) : Prop where
  pr : p ∈ PR
  un : Unlike pts
  lo : ∀ q ∈ pts, 1 ≤ q.1 ∧ q.1 ≤ 8
theorem small_ne {p d : Int} (hp : 11 ≤ p) (h1 : -8 ≤ d) (h2 : d ≤ 8) (h0 : d ≠ 0) : ¬ Cg p d 0 := fun z => by
  unfold Cg at z
  rw [Int.zero_emod] at z
  have dv : p ∣ d := Int.dvd_of_emod_eq_zero z
  by_cases hd : 0 < d
  · rw [Int.emod_eq_of_lt (by omega) (by omega)] at z
    omega
  · have z2 := Int.emod_eq_zero_of_dvd ((Int.dvd_neg).mpr dv)
    rw [Int.emod_eq_of_lt (by omega) (by omega)] at z2
    omega
theorem prodO_ne {p one x : Int} (hp : p ∈ PR) (h : 1 ≤ x ∧ x ≤ 8) : ∀ (pts : Pts), (∀ q ∈ pts, 1 ≤ q.1 ∧ q.1 ≤ 8) → (∀ q ∈ pts, q.1 ≠ one → q.1 ≠ x) → ¬ Cg p (prodO one x pts) 0
  | [], _, _ => fun q => by
    have q' : (1 : Int) % p = 0 % p := q
    obtain ⟨l, _⟩ := pr_pos hp
    rw [Int.zero_emod, Int.emod_eq_of_lt (by omega) (by omega)] at q'
    omega
  | q :: r, k, u => fun z => by
    rw [prodO_cons] at z
    rcases cg_prime hp z with z | z
    · obtain ⟨l, _⟩ := pr_pos hp
      by_cases e : q.1 ≠ one
      · rw [if_pos e] at z
        have b := k q List.mem_cons_self
        have ne := u q List.mem_cons_self e
        exact small_ne l (by omega) (by omega) (by omega) z
      · rw [if_neg e] at z
        have z' : (1 : Int) % p = 0 % p := z
        rw [Int.zero_emod, Int.emod_eq_of_lt (by omega) (by omega)] at z'
        omega
    · exact prodO_ne hp h r (fun q hq => k q (List.mem_cons_of_mem _ hq)) (fun q hq => u q (List.mem_cons_of_mem _ hq)) z
theorem good_inv {p : Int} {pts : Pts} (g : Good p pts) {q : Int × Int} (h : q ∈ pts) : inverses p (basis p pts q.1).2 ≠ [] := by
  refine inverses_ne g.pr fun z => ?_
  exact prodO_ne g.pr (g.lo q h) pts g.lo (fun _ _ e => e) ((basis_bot pts q.1).symm.trans z)
theorem prodO_zero {one x : Int} : ∀ (pts : Pts) (q : Int × Int), q ∈ pts → q.1 = x → x ≠ one → prodO one x pts = 0
  | [], _, h, _, _ => by cases h
  | a :: r, q, h, e, ne => by
    rw [prodO_cons]
    rcases List.mem_cons.mp h with z | z
    · subst z
      rw [if_pos (by rw [e]; exact ne), e, Int.sub_self, Int.zero_mul]
    · rw [prodO_zero r q z e ne, Int.mul_zero]
/-- the block has what it goes through -/
theorem lag_at {p : Int} {pts : Pts} (g : Good p pts) {q : Int × Int} (hq : q ∈ pts) : ∀ (l : Pts), Unlike l → (∀ z ∈ l, z ∈ pts) → Cg p (lag p pts q.1 l) (if q ∈ l then q.2 else 0)
  | [], _, _ => by
    rw [if_neg (by simp)]
    exact Cg.refl p 0
  | a :: r, u, hm => by
    have u' : a.1 ∉ r.map (·.1) ∧ (r.map (·.1)).Nodup := List.nodup_cons.mp u
    have e : lag p pts q.1 (a :: r) = factor p pts a * prodO a.1 q.1 pts + lag p pts q.1 r := by
      unfold lag
      rw [List.foldl_cons, foldl_sum]
      omega
    rw [e]
    have ih := lag_at g hq r u'.2 fun z hz => hm z (List.mem_cons_of_mem _ hz)
    by_cases ea : a.1 = q.1
    · -- the point itself
      have inj : ∀ {l : Pts} {a b : Int × Int}, Unlike l → a ∈ l → b ∈ l → a.1 = b.1 → a = b := fun {l a b} u ha hb e => by
        induction l with
        | nil => cases ha
        | cons c t ih =>
          have u2 : c.1 ∉ t.map (·.1) ∧ (t.map (·.1)).Nodup := List.nodup_cons.mp u
          rcases List.mem_cons.mp ha with ea | ea
          · rcases List.mem_cons.mp hb with eb | eb
            · rw [ea, eb]
            · exact absurd (List.mem_map.mpr ⟨b, eb, by rw [← e, ea]⟩) u2.1
          · rcases List.mem_cons.mp hb with eb | eb
            · exact absurd (List.mem_map.mpr ⟨a, ea, by rw [e, eb]⟩) u2.1
            · exact ih u2.2 ea eb
      have eq : a = q := inj g.un (hm a List.mem_cons_self) hq ea
      subst eq
      have nr : a ∉ r := fun z => u'.1 (List.mem_map.mpr ⟨a, z, rfl⟩)
      rw [if_neg nr] at ih
      rw [if_pos List.mem_cons_self]
      obtain ⟨_, _, h3⟩ := inverseIn_spec (good_inv g hq)
      have h3' : Cg p (inverseIn p (basis p pts a.1).2 * (basis p pts a.1).2) 1 := by
        obtain ⟨l, _⟩ := pr_pos g.pr
        unfold Cg
        rw [h3, Int.emod_eq_of_lt (by omega) (by omega)]
      refine Cg.trans (Cg.add (Cg.mul (Cg.mod p _) (basis_bot pts a.1).symm) ih) ?_
      rw [Int.add_zero, Int.mul_assoc]
      exact (Cg.mul (Cg.refl p _) h3').trans (Cg.of_eq (Int.mul_one _))
    · rw [prodO_zero pts q hq rfl (fun z => ea z.symm), Int.mul_zero, Int.zero_add]
      refine ih.trans (Cg.of_eq ?_)
      by_cases m : q ∈ r
      · rw [if_pos m, if_pos (List.mem_cons_of_mem _ m)]
      · rw [if_neg m, if_neg (fun z => (List.mem_cons.mp z).elim (fun z => ea (by rw [z])) m)]
theorem through_at {p : Int} {pts : Pts} (g : Good p pts) {q : Int × Int} (hq : q ∈ pts) : Cg p (ev (throughIn p pts) q.1) q.2 := by
  refine (through_ev g.un q.1).trans ((lag_at g hq pts g.un fun _ h => h).trans ?_)
  rw [if_pos hq]
  exact Cg.refl p _
theorem through_value {p : Int} {pts : Pts} (g : Good p pts) {q : Int × Int} (hq : q ∈ pts) (hr : 0 ≤ q.2 ∧ q.2 < p) : valueIn p (throughIn p pts) q.1 = q.2 := by
  rw [valueIn_ev]
  have h : ev (throughIn p pts) q.1 % p = q.2 % p := through_at g hq
  rw [h, Int.emod_eq_of_lt hr.1 hr.2]
/-! ### a block of so many signs that has so many values is one -/
/-- what is left by a root -/
def quo (r : Int) : List Int → List Int
  | [] => []
  | [_] => []
  | _ :: b :: t => ev (b :: t) r :: quo r (b :: t)
theorem quo_len (r : Int) : ∀ xs, (quo r xs).length = xs.length - 1
  | [] => rfl
  | [_] => rfl
  | _ :: b :: t => by
    show (quo r (b :: t)).length + 1 = _
    rw [quo_len r (b :: t)] <;> rfl
/-- xs(x) = xs(r) + (x - r) * q(x) -/
theorem quo_ev (r x : Int) : ∀ xs, ev xs x = ev xs r + (x - r) * ev (quo r xs) x
  | [] => by
    show (0 : Int) = 0 + (x - r) * 0
    omega
  | [a] => by
    show a + x * 0 = a + r * 0 + (x - r) * 0
    omega
  | a :: b :: t => by
    show a + x * ev (b :: t) x = a + r * ev (b :: t) r + (x - r) * (ev (b :: t) r + x * ev (quo r (b :: t)) x)
    have ih := quo_ev r x (b :: t)
    have e : x * ev (b :: t) x = x * ev (b :: t) r + (x - r) * (x * ev (quo r (b :: t)) x) := by
      rw [ih, Int.mul_add, Int.mul_left_comm]
    rw [e, Int.mul_add, Int.sub_mul x r (ev (b :: t) r)]
    omega
theorem quo_zero {p r : Int} : ∀ xs, (∀ c ∈ quo r xs, Cg p c 0) → Cg p (ev xs r) 0 → ∀ a ∈ xs, Cg p a 0
  | [], _, _, _, h => by cases h
  | [a], _, h, c, hc => by
    rw [List.mem_singleton.mp hc]
    exact (Cg.of_eq (by
      show a = a + r * 0
      omega)).trans h
  | a :: b :: t, hq, h, c, hc => by
    have h1 : Cg p (ev (b :: t) r) 0 := hq _ List.mem_cons_self
    rcases List.mem_cons.mp hc with e | e
    · rw [e]
      have z : Cg p (a + r * ev (b :: t) r - r * ev (b :: t) r) (0 - r * 0) := Cg.sub h (Cg.mul (Cg.refl p r) h1)
      exact (Cg.of_eq (by omega)).trans (z.trans (Cg.of_eq (by omega)))
    · exact quo_zero (b :: t) (fun c hc => hq c (List.mem_cons_of_mem _ hc)) h1 c e
/-- a block of n signs with n roots is nought -/
theorem roots_zero {p : Int} (hp : p ∈ PR) : ∀ (n : Nat) (xs rs : List Int), xs.length = n → n ≤ rs.length → rs.Nodup → (∀ r ∈ rs, 1 ≤ r ∧ r ≤ 8) → (∀ r ∈ rs, Cg p (ev xs r) 0) → ∀ a ∈ xs, Cg p a 0
  | 0, [], _, _, _, _, _, _, _, h => by cases h
  | 0, _ :: _, _, h, _, _, _, _, _, _ => by cases h
  | n + 1, xs, [], _, h, _, _, _, _, _ => by simp at h
  | n + 1, xs, r :: rs, hl, hn, nd, hb, hz, a, ha => by
    have nd' := List.nodup_cons.mp nd
    obtain ⟨l, _⟩ := pr_pos hp
    refine quo_zero xs (roots_zero hp n (quo r xs) rs (by rw [quo_len, hl]; rfl) (by simpa using hn) nd'.2 (fun s hs => hb s (List.mem_cons_of_mem _ hs)) fun s hs => ?_) (hz r List.mem_cons_self) a ha
    have h1 := hz r List.mem_cons_self
    have h2 := hz s (List.mem_cons_of_mem _ hs)
    have h3 : Cg p ((s - r) * ev (quo r xs) s) 0 := by
      have z : Cg p (ev xs s - ev xs r) (0 - 0) := Cg.sub h2 h1
      refine (Cg.of_eq ?_).trans z
      rw [quo_ev r s xs]
      omega
    have b1 := hb r List.mem_cons_self
    have b2 := hb s (List.mem_cons_of_mem _ hs)
    rcases cg_prime hp h3 with h | h
    · have ne : s ≠ r := fun e => nd'.1 (e ▸ hs)
      exact absurd h (small_ne l (by omega) (by omega) (by omega))
    · exact h
theorem ev_diff (x : Int) : ∀ xs ys : List Int, xs.length = ys.length → ev (xs.zipWith (· - ·) ys) x = ev xs x - ev ys x
  | [], [], _ => by
    show (0 : Int) = 0 - 0
    omega
  | [], _ :: _, h => by cases h
  | _ :: _, [], h => by cases h
  | a :: r, b :: t, h => by
    show a - b + x * ev (r.zipWith (· - ·) t) x = a + x * ev r x - (b + x * ev t x)
    rw [ev_diff x r t (by simpa using h), Int.mul_sub]
    omega
/-- block b goes through the points -/
def Thru (p : Int) (b : List Int) (pts : Pts) : Prop := ∀ q ∈ pts, Cg p (ev b q.1) q.2
theorem thru_cg {p : Int} {b c : List Int} {pts : Pts} (g : Good p pts) (hl : b.length = c.length) (hn : b.length ≤ pts.length) (hb : Thru p b pts) (hc : Thru p c pts) : ∀ (i : Nat) (x y : Int), b[i]? = some x → c[i]? = some y → Cg p x y := fun i x y hx hy => by
  have z := roots_zero g.pr (b.zipWith (· - ·) c).length (b.zipWith (· - ·) c) (pts.map fun (q : Int × Int) => q.1) rfl (by rw [List.length_zipWith, List.length_map]; omega) g.un (fun r hr => by
    obtain ⟨q, hq, e⟩ := List.mem_map.mp hr
    rw [← e]
    exact g.lo q hq) (fun r hr => by
    obtain ⟨q, hq, e⟩ := List.mem_map.mp hr
    rw [← e, ev_diff _ _ _ hl]
    exact (Cg.sub (hb q hq) (hc q hq)).trans (Cg.of_eq (Int.sub_self _)))
  refine Cg.zero_of_sub (z (x - y) ?_)
  refine List.mem_of_getElem? (i := i) ?_
  rw [List.getElem?_zipWith, hx, hy]
theorem thru_uniq {p : Int} {b c : List Int} {pts : Pts} (g : Good p pts) (hl : b.length = c.length) (hn : b.length ≤ pts.length) (hb : Thru p b pts) (hc : Thru p c pts) (rb : ∀ a ∈ b, 0 ≤ a ∧ a < p) (rc : ∀ a ∈ c, 0 ≤ a ∧ a < p) : b = c := by
  refine List.ext_getElem? fun i => ?_
  by_cases hi : i < b.length
  · have h1 := List.getElem?_eq_getElem hi
    have h2 := List.getElem?_eq_getElem (l := c) (i := i) (by omega)
    rw [h1, h2]
    exact congrArg some (Cg.eq (thru_cg g hl hn hb hc i _ _ h1 h2) (rb _ (List.getElem_mem _)) (rc _ (List.getElem_mem _)))
  · rw [List.getElem?_eq_none (by omega), List.getElem?_eq_none (by omega)]
theorem thru_ev {p : Int} {b c : List Int} {pts : Pts} (g : Good p pts) (hl : b.length = c.length) (hn : b.length ≤ pts.length) (hb : Thru p b pts) (hc : Thru p c pts) (x : Int) : Cg p (ev b x) (ev c x) := ev_cg x hl (thru_cg g hl hn hb hc)
theorem Good.sub {p : Int} {pts l : Pts} (g : Good p pts) (h : l.Sublist pts) : Good p l :=
  ⟨g.pr, List.Nodup.sublist (h.map _) g.un, fun q hq => g.lo q (h.subset hq)⟩
theorem Thru.sub {p : Int} {b : List Int} {pts l : Pts} (t : Thru p b pts) (h : l.Sublist pts) : Thru p b l := fun q hq => t q (h.subset hq)
/-! ### fitting -/
def fitsP (p : Int) (pts : Pts) (need : Nat) : Bool := decide (pts.length ≤ need) || (pts.drop need).all fun q => decide (valueIn p (throughIn p (pts.take need)) q.1 = q.2)
def InR (p : Int) (pts : Pts) : Prop := ∀ q ∈ pts, 0 ≤ q.2 ∧ q.2 < p
theorem InR.sub {p : Int} {pts l : Pts} (r : InR p pts) (h : l.Sublist pts) : InR p l := fun q hq => r q (h.subset hq)
theorem through_thru {p : Int} {pts : Pts} (g : Good p pts) : Thru p (throughIn p pts) pts := fun q hq => through_at g hq
theorem take_len {pts : Pts} {need : Nat} (h : need ≤ pts.length) : (pts.take need).length = need := by rw [List.length_take]; omega
theorem fits_thru {p : Int} {pts : Pts} {need : Nat} (g : Good p pts) (hn : need ≤ pts.length) (h : fitsP p pts need = true) : Thru p (throughIn p (pts.take need)) pts := fun q hq => by
  have g1 := g.sub (List.take_sublist need pts)
  rw [← List.take_append_drop need pts] at hq
  rcases List.mem_append.mp hq with m | m
  · exact through_at g1 m
  · unfold fitsP at h
    by_cases hl : pts.length ≤ need
    · rw [List.drop_eq_nil_of_le hl] at m
      cases m
    · rw [decide_eq_false hl, Bool.false_or, List.all_eq_true] at h
      have e := of_decide_eq_true (h q m)
      rw [valueIn_ev] at e
      unfold Cg
      rw [← e]
      exact (Cg.mod p _).symm
theorem fits_of {p : Int} {pts : Pts} {need : Nat} {b : List Int} (g : Good p pts) (r : InR p pts) (hl : b.length = need) (t : Thru p b pts) : fitsP p pts need = true := by
  unfold fitsP
  by_cases hn : pts.length ≤ need
  · rw [decide_eq_true hn, Bool.true_or]
  · rw [decide_eq_false hn, Bool.false_or, List.all_eq_true]
    intro q hq
    have g1 := g.sub (List.take_sublist need pts)
    have hq' : q ∈ pts := List.mem_of_mem_drop hq
    have hlen : (throughIn p (pts.take need)).length = b.length := by rw [through_len g1.un, take_len (by omega), hl]
    have z := thru_ev g1 hlen (by rw [through_len g1.un]; exact Nat.le_refl _) (through_thru g1) (t.sub (List.take_sublist need pts)) q.1
    refine decide_eq_true ?_
    rw [valueIn_ev]
    have e : ev (throughIn p (pts.take need)) q.1 % p = q.2 % p := z.trans (t q hq')
    rw [e, Int.emod_eq_of_lt (r q hq').1 (r q hq').2]
theorem through_is {p : Int} {pts : Pts} {need : Nat} {b : List Int} (g : Good p pts) (hn : need ≤ pts.length) (hl : b.length = need) (t : Thru p b pts) (rb : ∀ a ∈ b, 0 ≤ a ∧ a < p) : throughIn p (pts.take need) = b := by
  have g1 := g.sub (List.take_sublist need pts)
  obtain ⟨l, _⟩ := pr_pos g.pr
  exact thru_uniq g1 (by rw [through_len g1.un, take_len hn, hl]) (by rw [through_len g1.un]; exact Nat.le_refl _) (through_thru g1) (t.sub (List.take_sublist need pts)) (through_range (by omega) _) rb
/-! ### needs and stairs of a laying -/
def needsIn (lay : List Int) : List Int := lay.zipIdx.foldl (fun f (q : Int × Nat) => f ++ List.replicate q.1.toNat ((q.2 : Int) + 1)) []
def needsFrom (n : Nat) : List Int → List Int
  | [] => []
  | s :: r => List.replicate s.toNat ((n : Int) + 1) ++ needsFrom (n + 1) r
theorem needs_fold : ∀ (lay : List Int) (n : Nat) (f : List Int), (lay.zipIdx n).foldl (fun f (q : Int × Nat) => f ++ List.replicate q.1.toNat ((q.2 : Int) + 1)) f = f ++ needsFrom n lay
  | [], n, f => by
    show f = f ++ []
    rw [List.append_nil]
  | s :: r, n, f => by
    rw [List.zipIdx_cons, List.foldl_cons, needs_fold r, List.append_assoc]
    rfl
theorem needsIn_eq (lay : List Int) : needsIn lay = needsFrom 0 lay := needs_fold lay 0 []
def stairStep (s : List Int × Int) (q : Int × Nat) : List Int × Int := (s.1 ++ [s.2 + ((q.2 : Int) + 1) * q.1], s.2 + ((q.2 : Int) + 1) * q.1)
def stairIn (lay : List Int) : List Int := (lay.zipIdx.foldl stairStep ([], 0)).1
def stairFrom (n : Nat) (last : Int) : List Int → List Int
  | [] => []
  | s :: r => (last + ((n : Int) + 1) * s) :: stairFrom (n + 1) (last + ((n : Int) + 1) * s) r
theorem stair_fold : ∀ (lay : List Int) (n : Nat) (f : List Int) (last : Int), ((lay.zipIdx n).foldl stairStep (f, last)).1 = f ++ stairFrom n last lay
  | [], n, f, last => by
    show f = f ++ []
    rw [List.append_nil]
  | s :: r, n, f, last => by
    rw [List.zipIdx_cons, List.foldl_cons]
    show (List.foldl stairStep (f ++ [last + ((n : Int) + 1) * s], last + ((n : Int) + 1) * s) (r.zipIdx (n + 1))).1 = _
    rw [stair_fold r, List.append_assoc]
    rfl
theorem stairIn_eq (lay : List Int) : stairIn lay = stairFrom 0 0 lay := stair_fold lay 0 [] 0
theorem stairFrom_len : ∀ (lay : List Int) (n : Nat) (last : Int), (stairFrom n last lay).length = lay.length
  | [], _, _ => rfl
  | _ :: r, n, last => by
    show (stairFrom (n + 1) _ r).length + 1 = _
    rw [stairFrom_len r] <;> rfl
theorem needs_range : ∀ (lay : List Int) (n : Nat), ∀ k ∈ needsFrom n lay, (n : Int) + 1 ≤ k ∧ k ≤ n + lay.length
  | [], _, _, h => by cases h
  | s :: r, n, k, h => by
    have h' : k ∈ List.replicate s.toNat ((n : Int) + 1) ++ needsFrom (n + 1) r := h
    rw [List.length_cons]
    rcases List.mem_append.mp h' with m | m
    · have e := List.eq_of_mem_replicate m
      omega
    · have ih := needs_range r (n + 1) k m
      omega
theorem needs_sorted : ∀ (lay : List Int) (n : Nat), (needsFrom n lay).Pairwise (· ≤ ·)
  | [], _ => List.Pairwise.nil
  | s :: r, n => by
    show (List.replicate s.toNat ((n : Int) + 1) ++ needsFrom (n + 1) r).Pairwise (· ≤ ·)
    rw [List.pairwise_append]
    refine ⟨List.pairwise_replicate.mpr (.inr (Int.le_refl _)), needs_sorted r (n + 1), fun a ha b hb => ?_⟩
    have e := List.eq_of_mem_replicate ha
    have h := needs_range r (n + 1) b hb
    omega
/-- how many signs the blocks of needs up to j have together -/
def sumLe (j : Int) (ns : List Int) : Int := (ns.filter fun k => decide (k ≤ j)).sum
theorem sumLe_app (j : Int) (a b : List Int) : sumLe j (a ++ b) = sumLe j a + sumLe j b := by
  unfold sumLe
  rw [List.filter_append, List.sum_append]
theorem sumLe_none {j : Int} : ∀ {ns : List Int}, (∀ k ∈ ns, j < k) → sumLe j ns = 0 := fun {ns} h => by
  unfold sumLe
  rw [List.filter_eq_nil_iff.mpr fun k hk => by
    have := h k hk
    simp only [decide_eq_true_eq]
    omega]
  rfl
theorem sum_replicate (k : Int) : ∀ n : Nat, (List.replicate n k).sum = n * k
  | 0 => by
    show (0 : Int) = ((0 : Nat) : Int) * k
    rw [Int.natCast_zero, Int.zero_mul]
  | n + 1 => by
    rw [List.replicate_succ, List.sum_cons, sum_replicate k n, Int.natCast_add, Int.add_mul]
    omega
theorem stair_at : ∀ (lay : List Int) (n : Nat) (last : Int) (j : Nat), (∀ s ∈ lay, 0 ≤ s) → j ≤ lay.length → (last :: stairFrom n last lay)[j]? = some (last + sumLe ((n : Int) + j) (needsFrom n lay))
  | lay, n, last, 0, hs, _ => by
    rw [sumLe_none fun k hk => by
      have := needs_range lay n k hk
      omega]
    show some last = some (last + 0)
    rw [Int.add_zero]
  | [], _, _, j + 1, _, h => by cases h
  | s :: r, n, last, j + 1, hs, h => by
    have ih := stair_at r (n + 1) (last + ((n : Int) + 1) * s) j (fun x hx => hs x (List.mem_cons_of_mem _ hx)) (by simpa using h)
    show ((last + ((n : Int) + 1) * s) :: stairFrom (n + 1) (last + ((n : Int) + 1) * s) r)[j]? = _
    rw [ih]
    congr 1
    show last + ((n : Int) + 1) * s + sumLe (((n + 1 : Nat) : Int) + j) (needsFrom (n + 1) r) = last + sumLe ((n : Int) + ((j + 1 : Nat) : Int)) (List.replicate s.toNat ((n : Int) + 1) ++ needsFrom (n + 1) r)
    rw [sumLe_app]
    have s0 := hs s List.mem_cons_self
    have e1 : sumLe ((n : Int) + ((j + 1 : Nat) : Int)) (List.replicate s.toNat ((n : Int) + 1)) = ((n : Int) + 1) * s := by
      unfold sumLe
      rw [List.filter_eq_self.mpr fun k hk => decide_eq_true (by
        have := List.eq_of_mem_replicate hk
        omega), sum_replicate, Int.toNat_of_nonneg s0, Int.mul_comm]
    have e2 : (((n + 1 : Nat) : Int) + j) = ((n : Int) + ((j + 1 : Nat) : Int)) := by omega
    rw [e1, e2]
    omega
/-- R(j) -/
theorem stairIn_at {lay : List Int} {j : Nat} (hs : ∀ s ∈ lay, 0 ≤ s) (h : j ≤ lay.length) : (0 :: stairIn lay)[j]? = some (sumLe j (needsIn lay)) := by
  rw [stairIn_eq, needsIn_eq, stair_at lay 0 0 j hs h]
  congr 1
  rw [Int.zero_add]
  congr 1
  omega
theorem needs_len : ∀ (lay : List Int) (n : Nat), (∀ s ∈ lay, 0 ≤ s) → ((needsFrom n lay).length : Int) = lay.sum
  | [], _, _ => rfl
  | s :: r, n, hs => by
    show (((List.replicate s.toNat ((n : Int) + 1) ++ needsFrom (n + 1) r).length : Nat) : Int) = (s :: r).sum
    rw [List.length_append, List.length_replicate, List.sum_cons, Int.natCast_add, needs_len r (n + 1) (fun x hx => hs x (List.mem_cons_of_mem _ hx)), Int.toNat_of_nonneg (hs s List.mem_cons_self)]
theorem needsIn_len {lay : List Int} (hs : ∀ s ∈ lay, 0 ≤ s) : ((needsIn lay).length : Int) = lay.sum := by
  rw [needsIn_eq]
  exact needs_len lay 0 hs
theorem needsIn_range {lay : List Int} : ∀ k ∈ needsIn lay, 1 ≤ k ∧ k ≤ lay.length := fun k hk => by
  rw [needsIn_eq] at hk
  have := needs_range lay 0 k hk
  omega
theorem needsIn_sorted (lay : List Int) : (needsIn lay).Pairwise (· ≤ ·) := by
  rw [needsIn_eq]
  exact needs_sorted lay 0
end NLM
set_option maxHeartbeats 2000000
/-! Defs of the program, the first: numbers, signs, blocks. -/
namespace NL
open PySem PySem.Spec PyProof.Rows L2 StX
/-- the built-ins' names that are free, the module's constants -/
structure Free (mg : Str → Option Value) : Prop where
  isinstance : mg "isinstance" = none
  int : mg "int" = none
  bool : mg "bool" = none
  tuple : mg "tuple" = none
  list : mg "list" = none
  len : mg "len" = none
  all : mg "all" = none
  sum : mg "sum" = none
  range : mg "range" = none
  enumerate : mg "enumerate" = none
  zip : mg "zip" = none
  sorted : mg "sorted" = none
  dict : mg "dict" = none
  min : mg "min" = none
  repr : mg "repr" = none
section
variable {P : Program} {w : World} {K : PySem.W.Frag} {mg : Str → Option Value} {base : Heap} {C f : Addr} {fd : FuncData}
theorem kit_ii : kitB "int" "int" = some true := by decide +kernel
theorem kit_ib : kitB "int" "bool" = some false := by decide +kernel
theorem kit_tt : kitB "tuple" "tuple" = some true := by decide +kernel
theorem kit_ll : kitB "list" "list" = some true := by decide +kernel
theorem kit_il : kitB "int" "list" = some false := by decide +kernel
theorem ins1 {i : Nat} : Pt.ins [i] (.nm i) := List.mem_cons_self
theorem ins2 {i j : Nat} : Pt.ins [i, j] (.pr i j) := ⟨List.mem_cons_self, List.mem_cons_of_mem _ List.mem_cons_self⟩
def R_is_integer (ks : List SK) (d : PyData) : Prop := ∃ i : Int, ks = [.dat (.int i)] ∧ d = .bool true
theorem sc_is_integer : FnScope ["thing"] ["thing"] (defScope sIsInteger) := ⟨rfl, rfl, rfl, by decide +kernel, rfl, by decide +kernel, by decide +kernel⟩
theorem ok_is_integer (T : Free mg) (F : FnP K "is_integer" "is_integer" sIsInteger [] f fd) (hm : mg "is_integer" = some (.ref f)) : CalD P w K mg base C 1 "is_integer" R_is_integer := by
  refine cal_sd F hm sc_is_integer (fun _ _ _ _ _ _ us hl => match us, hl with | [_], _ => rfl) (fun ks d ⟨_, h, _⟩ => by rw [h] <;> rfl) fun cdv A outer s H E ks d hr ⟨x, hks, hd⟩ => ?_
  subst hks hd
  exact sd_last (sd_ret (pd_and (k1 := true) (k2 := true) (pd_isi (k1 := true) T.isinstance T.int (n := "int") (by decide +kernel) (pd_var 0 rfl) kit_ii) fun _ => pe_one (pd_notD (k1 := false) (pd_isi (k1 := false) T.isinstance T.bool (n := "bool") (by decide +kernel) (pd_var 0 rfl) kit_ib))) rfl)
def R_is_between (ks : List SK) (d : PyData) : Prop := ∃ i a b : Int, ks = [.dat (.int i), .dat (.int a), .dat (.int b)] ∧ d = .bool (decide (a ≤ i) && decide (i ≤ b))
theorem sc_is_between : FnScope ["thing", "least", "most"] ["thing", "least", "most"] (defScope sIsBetween) := ⟨rfl, rfl, rfl, by decide +kernel, rfl, by decide +kernel, by decide +kernel⟩
theorem ok_is_between (c : CalD P w K mg base C 1 "is_integer" R_is_integer) (F : FnP K "is_between" "is_between" sIsBetween [] f fd) (hm : mg "is_between" = some (.ref f)) : CalD P w K mg base C 2 "is_between" R_is_between := by
  refine cal_sd F hm sc_is_between (fun _ _ _ _ _ _ us hl => match us, hl with | [_, _, _], _ => rfl) (fun ks d ⟨_, _, _, h, _⟩ => by rw [h] <;> rfl) fun cdv A outer s H E ks d hr ⟨i, a, b, hks, hd⟩ => ?_
  subst hks hd
  exact sd_last (sd_ret (pd_is (pd_and (k1 := true) (pd_call c hr (da_cons (pd_var 0 rfl) da_nil) ⟨i, rfl, rfl⟩) fun _ => pe_one (pd_lele (pd_var 1 rfl) (pd_var 0 rfl) (pd_var 2 rfl))) (by rw [Bool.true_and])) rfl)
def R_need_prime (ks : List SK) (d : PyData) : Prop := ∃ p : Int, p ∈ NLM.PR ∧ ks = [.dat (.int p)] ∧ d = .none
theorem any_pr {p : Int} (h : p ∈ NLM.PR) : (NLM.PR.any fun y => decide (y = p)) = true := by
  rw [List.any_eq_true]
  exact ⟨p, h, decide_eq_true rfl⟩
theorem sc_need_prime : FnScope ["prime"] ["prime"] (defScope sNeedPrime) := ⟨rfl, rfl, rfl, by decide +kernel, rfl, by decide +kernel, by decide +kernel⟩
theorem ok_need_prime {ap : Addr} (c : CalD P w K mg base C 1 "is_integer" R_is_integer) (hP : mg "PRIMES" = some (.ref ap)) (rP : ∀ Hi : Hp, Dp K Hi (.ref ap) (dI NLM.PR)) (F : FnP K "need_prime" "need_prime" sNeedPrime [] f fd) (hm : mg "need_prime" = some (.ref f)) : CalD P w K mg base C 2 "need_prime" R_need_prime := by
  refine cal_sd F hm sc_need_prime (fun _ _ _ _ _ _ us hl => match us, hl with | [_], _ => rfl) (fun ks d ⟨_, _, h, _⟩ => by rw [h] <;> rfl) fun cdv A outer s H E ks d hr ⟨p, hp, hks, hd⟩ => ?_
  subst hks hd
  refine sd_seq (sd_no (pt_or (k1 := false) (k2 := false) (pt_notD (k1 := true) (pt_valD (pd_call c hr (da_cons (pd_var 0 rfl) da_nil) ⟨p, rfl, rfl⟩))) fun _ => pw_or1 (pd_isT (pt_cmpD op_notIn_seq (pd_var 0 rfl) (pd_gref hP rP) (opd_inT (neg := true))) (by rw [if_pos rfl, any_pr hp] <;> rfl))).pt) (sd_end rfl (Weak.refl _))
def R_is_sign (ks : List SK) (d : PyData) : Prop := ∃ p i : Int, ks = [.dat (.int p), .dat (.int i)] ∧ d = .bool (decide (0 ≤ i) && decide (i ≤ p - 1))
theorem sc_is_sign : FnScope ["prime", "thing"] ["prime", "thing"] (defScope sIsSign) := ⟨rfl, rfl, rfl, by decide +kernel, rfl, by decide +kernel, by decide +kernel⟩
theorem ok_is_sign (c : CalD P w K mg base C 2 "is_between" R_is_between) (F : FnP K "is_sign" "is_sign" sIsSign [] f fd) (hm : mg "is_sign" = some (.ref f)) : CalD P w K mg base C 3 "is_sign" R_is_sign := by
  refine cal_sd F hm sc_is_sign (fun _ _ _ _ _ _ us hl => match us, hl with | [_, _], _ => rfl) (fun ks d ⟨_, _, h, _⟩ => by rw [h] <;> rfl) fun cdv A outer s H E ks d hr ⟨p, i, hks, hd⟩ => ?_
  subst hks hd
  exact sd_last (sd_ret (pd_call c hr (da_cons (pd_var 1 rfl) (da_cons pd_int (da_cons (pd_sub (pd_var 0 rfl) pd_int) da_nil))) ⟨i, 0, p - 1, rfl, rfl⟩) rfl)
theorem dI_ints (ns : List Int) : dI ns = .tuple (ns.map .int) := rfl
def R_are_signs (ks : List SK) (d : PyData) : Prop := ∃ (p : Int) (ns : List Int), ns.length ≤ 1000 ∧ ks = [.dat (.int p), .dat (dI ns)] ∧ d = .bool (ns.all fun i => decide (0 ≤ i) && decide (i ≤ p - 1))
theorem sc_are_signs : FnScope ["prime", "thing", "one"] ["prime", "thing"] (defScope sAreSigns) := ⟨rfl, rfl, rfl, by decide +kernel, rfl, by decide +kernel, by decide +kernel⟩
theorem lt_size {n : Nat} (h : n ≤ 1000) : n < sizeLine := by
  rw [sizeLine_eq]
  omega
theorem all_map_id {α : Type} (g : α → Bool) (xs : List α) : (xs.map g).all id = xs.all g := by
  rw [List.all_map]
  rfl
theorem ok_are_signs (T : Free mg) (c : CalD P w K mg base C 3 "is_sign" R_is_sign) (F : FnP K "are_signs" "are_signs" sAreSigns [] f fd) (hm : mg "are_signs" = some (.ref f)) : CalD P w K mg base C 4 "are_signs" R_are_signs := by
  refine cal_sd F hm sc_are_signs (fun _ _ _ _ _ _ us hl => match us, hl with | [_, _], _ => rfl) (fun ks d ⟨_, _, _, h, _⟩ => by rw [h] <;> rfl) fun cdv A outer s H E ks d hr ⟨p, ns, hl, hks, hd⟩ => ?_
  subst hks hd
  refine sd_last (sd_ret (pd_is (pd_and (k1 := true) (k2 := ns.all fun i => decide (0 ≤ i) && decide (i ≤ p - 1)) (pd_isi (k1 := true) T.isinstance T.tuple (n := "tuple") (by decide +kernel) (pd_var 1 rfl) kit_tt) fun _ => pe_one ?_) (by rw [Bool.true_and])) rfl)
  refine pd_is (pd_all (bs := ns.map fun i => decide (0 ≤ i) && decide (i ≤ p - 1)) rfl T.all (pd_is (pd_lc0 (own := [("one", 2)]) (pt := .nm 2) ns .int (fun i => .bool (decide (0 ≤ i) && decide (i ≤ p - 1))) (gb := fun i => [.dat (.int p), .dat (dI ns), .dat (.int i)]) rfl sc_are_signs.nd (di_tup (pd_var 1 rfl)) (blkOk_by rfl) (fun _ _ _ _ _ => pg_nm 2 sc_are_signs.nd) (lt_size hl) ins1 (fun x hx => .nm)
    (fun x hx s H C' cl fp => pd_call c hr (da_cons (pd_var 0 rfl) (da_cons (pd_var 2 rfl) da_nil)) ⟨p, x, rfl, rfl⟩)) (by rw [List.map_map]; rfl))) (by rw [all_map_id])
def R_rest_of (ks : List SK) (d : PyData) : Prop := ∃ p n : Int, 0 < p ∧ ks = [.dat (.int p), .dat (.int n)] ∧ d = .int (n % p)
theorem sc_rest_of : FnScope ["prime", "number"] ["prime", "number"] (defScope sRestOf) := ⟨rfl, rfl, rfl, by decide +kernel, rfl, by decide +kernel, by decide +kernel⟩
theorem ok_rest_of (T : Free mg) (F : FnP K "rest_of" "rest_of" sRestOf [] f fd) (hm : mg "rest_of" = some (.ref f)) : CalD P w K mg base C 1 "rest_of" R_rest_of := by
  refine cal_sd F hm sc_rest_of (fun _ _ _ _ _ _ us hl => match us, hl with | [_, _], _ => rfl) (fun ks d ⟨_, _, _, h, _⟩ => by rw [h] <;> rfl) fun cdv A outer s H E ks d hr ⟨p, i, h0, hks, hd⟩ => ?_
  subst hks hd
  exact sd_last (sd_ret (pd_mod (pd_intC T.int (pd_var 1 rfl)) (pd_var 0 rfl) h0) rfl)
theorem cmul_r {i j : Int} (h : -(2 ^ 62) < j ∧ j < 2 ^ 62) : CMul i j := .inr ⟨by omega, by omega⟩
theorem cmul_l {i j : Int} (h : -(2 ^ 62) < i ∧ i < 2 ^ 62) : CMul i j := .inl ⟨by omega, by omega⟩
def R_value_in (ks : List SK) (d : PyData) : Prop := ∃ (p : Int) (ns : List Int) (x : Int), p ∈ NLM.PR ∧ -1000 ≤ x ∧ x ≤ 1000 ∧ ks = [.dat (.int p), .dat (dI ns), .dat (.int x)] ∧ d = .int (NLM.valueIn p ns x)
theorem sc_value_in : FnScope ["prime", "block", "sign", "found", "one"] ["prime", "block", "sign"] (defScope sValueIn) := ⟨rfl, rfl, rfl, by decide +kernel, rfl, by decide +kernel, by decide +kernel⟩
theorem ok_value_in (c : CalD P w K mg base C 1 "rest_of" R_rest_of) (F : FnP K "value_in" "value_in" sValueIn [] f fd) (hm : mg "value_in" = some (.ref f)) : CalD P w K mg base C 2 "value_in" R_value_in := by
  refine cal_sd F hm sc_value_in (fun _ _ _ _ _ _ us hl => match us, hl with | [_, _, _], _ => rfl) (fun ks d ⟨_, _, _, _, _, _, h, _⟩ => by rw [h] <;> rfl) fun cdv A outer s H E ks d hr ⟨p, ns, x, hp, hx1, hx2, hks, hd⟩ => ?_
  subst hks hd
  have h0 : 0 < p := by have := NLM.pr_pos hp; omega
  refine sd_seq (sd_set 3 sc_value_in.nd pd_int) ?_
  refine sd_cons (sd_for (fun i G => ∃ k, G = [.dat (.int p), .dat (dI ns), .dat (.int x), .dat (.int ((ns.reverse.take i).foldl (fun f o => (f * x + o) % p) 0)), k]) rfl (di_is (di_tup (pd_revT (pd_var 1 rfl))) List.map_reverse.symm) (pg_nm 4 sc_value_in.nd) ⟨_, rfl⟩ ?_ fun G' h => h) ?_
  · rintro i d Gi hd ⟨k, rfl⟩
    obtain ⟨o, ho, rfl⟩ := map_at hd
    refine ⟨_, .nm, sd_seq (sd_set 3 sc_value_in.nd (pd_call c hr (da_cons (pd_var 0 rfl) (da_cons (pd_add (pd_mul (pd_var 3 rfl) (pd_var 2 rfl) (cmul_r (by omega))) (pd_var 4 rfl)) da_nil)) ⟨p, _, h0, rfl, rfl⟩)) (sd_end ⟨.dat (.int o), by rw [fold_take ho]; rfl⟩ (Weak.refl _))⟩
  · rintro G1 ⟨k, rfl⟩
    rw [show ((List.map PyData.int ns.reverse).length) = ns.reverse.length from List.length_map ..]
    exact sd_last (sd_ret (pd_var 3 rfl) (by rw [fold_all] <;> rfl))
def R_inverse_in (ks : List SK) (d : PyData) : Prop := ∃ p s : Int, p ∈ NLM.PR ∧ NLM.inverses p s ≠ [] ∧ ks = [.dat (.int p), .dat (.int s)] ∧ d = .int (NLM.inverseIn p s)
theorem sc_inverse_in : FnScope ["prime", "sign", "one"] ["prime", "sign"] (defScope sInverseIn) := ⟨rfl, rfl, rfl, by decide +kernel, rfl, by decide +kernel, by decide +kernel⟩
theorem rngD_map (lo : Int) (n : Nat) : rngD lo n = ((List.range n).map fun (i : Nat) => lo + (i : Int)).map PyData.int := by
  unfold rngD
  rw [List.map_map]
  rfl
theorem at0_ints {ns : List Int} (h : ns ≠ []) : atI (ns.map PyData.int) 0 = some (.int (ns.headD 0)) := by
  cases ns with
  | nil => exact absurd rfl h
  | cons n r => exact atI_nat (j := 0) rfl
theorem rng_mem {lo : Int} {n : Nat} {x : Int} (h : x ∈ (List.range n).map fun (i : Nat) => lo + (i : Int)) : lo ≤ x ∧ x < lo + n := by
  rw [List.mem_map] at h
  obtain ⟨i, hi, e⟩ := h
  rw [List.mem_range] at hi
  omega
theorem ok_inverse_in (T : Free mg) (c : CalD P w K mg base C 1 "rest_of" R_rest_of) (F : FnP K "inverse_in" "inverse_in" sInverseIn [] f fd) (hm : mg "inverse_in" = some (.ref f)) : CalD P w K mg base C 2 "inverse_in" R_inverse_in := by
  refine cal_sd F hm sc_inverse_in (fun _ _ _ _ _ _ us hl => match us, hl with | [_, _], _ => rfl) (fun ks d ⟨_, _, _, _, h, _⟩ => by rw [h] <;> rfl) fun cdv A outer s H E ks d hr ⟨p, x, hp, hne, hks, hd⟩ => ?_
  subst hks hd
  have hpb := NLM.pr_pos hp
  refine sd_last (sd_ret (pd_ixL (pd_lcT (own := [("one", 2)]) (pt := .nm 2) ((List.range (p - 1).toNat).map fun (i : Nat) => 1 + (i : Int)) .int (fun o => decide ((o * x) % p = 1)) .int (gb := fun i => [.dat (.int p), .dat (.int x), .dat (.int i)]) rfl sc_inverse_in.nd (di_is (di_rng2 T.range pd_int (pd_var 0 rfl) (by omega)) (rngD_map _ _)) (blkOk_by rfl) (fun _ _ _ _ _ => pg_nm 2 sc_inverse_in.nd) (lt_size (by rw [List.length_map, List.length_range]; omega)) ins1 (fun o ho => .nm)
    (fun o ho s H C' cl fp => pts_one (pt_eqI (pd_call c hr (da_cons (pd_var 0 rfl) (da_cons (pd_mul (pd_var 2 rfl) (pd_var 1 rfl) (cmul_l (by have := rng_mem ho; omega))) da_nil)) ⟨p, _, by omega, rfl, rfl⟩) pd_int))
    (fun o ho hb s H C' cl fp => pd_var 2 rfl)) pd_int (at0_ints hne)) rfl)
end
end NL
set_option maxHeartbeats 2000000
/-! Defs of the program: times_root, through_in. -/
namespace NL
open PySem PySem.Spec PyProof.Rows L2 StX
section
variable {P : Program} {w : World} {K : PySem.W.Frag} {mg : Str → Option Value} {base : Heap} {C f : Addr} {fd : FuncData}
def R_times_root (ks : List SK) (d : PyData) : Prop := ∃ (p : Int) (b : List Int) (r : Int), p ∈ NLM.PR ∧ b.length ≤ 100 ∧ -1000 ≤ r ∧ r ≤ 1000 ∧ ks = [.dat (.int p), .dat (dL b), .dat (.int r)] ∧ d = dL (NLM.timesRoot p b r)
theorem sc_times_root : FnScope ["prime", "block", "root", "found", "spot", "one"] ["prime", "block", "root"] (defScope sTimesRoot) := ⟨rfl, rfl, rfl, by decide +kernel, rfl, by decide +kernel, by decide +kernel⟩
theorem ixN_nat {n i : Nat} (h : i < n) : ixN n (i : Int) = some i := by
  unfold ixN
  rw [if_pos (by omega), if_pos (by omega)]
  rfl
theorem map_set_i (f : List Int) (i : Nat) (v : Int) : (f.map PyData.int).set i (.int v) = (f.set i v).map PyData.int := by rw [List.map_set]
def trf (p r : Int) (b : List Int) (i : Nat) : List Int := (b.zipIdx.take i).foldl (fun f (q : Int × Nat) => f.set q.2 ((f.getD q.2 0 - r * q.1) % p)) (0 :: b)
theorem trf_len (p r : Int) (b : List Int) (i : Nat) : (trf p r b i).length = b.length + 1 := by
  have key : ∀ (l : List (Int × Nat)) (f : List Int), (l.foldl (fun f (q : Int × Nat) => f.set q.2 ((f.getD q.2 0 - r * q.1) % p)) f).length = f.length := fun l => by
    induction l with
    | nil => exact fun f => rfl
    | cons q l ih => exact fun f => by rw [List.foldl_cons, ih, List.length_set]
  exact key _ _
theorem ok_times_root (T : Free mg) (c : CalD P w K mg base C 1 "rest_of" R_rest_of) (F : FnP K "times_root" "times_root" sTimesRoot [] f fd) (hm : mg "times_root" = some (.ref f)) : CalD P w K mg base C 2 "times_root" R_times_root := by
  refine cal_sd F hm sc_times_root (fun _ _ _ _ _ _ us hl => match us, hl with | [_, _, _], _ => rfl) (fun ks d ⟨_, _, _, _, _, _, _, h, _⟩ => by rw [h] <;> rfl) fun cdv A outer s H E ks d hr ⟨p, b, r, hp, hb, hr1, hr2, hks, hd⟩ => ?_
  subst hks hd
  have h0 : 0 < p := by have := NLM.pr_pos hp; omega
  refine sd_seq (sd_newLs 3 sc_times_root.nd (ds_cons pd_int (ds_starL (es' := b.map .int) (pd_var 1 rfl) ds_nil)) (Nat.le_of_lt (lt_size (by rw [List.append_nil, List.length_cons, List.length_map]; omega)))) ?_
  refine sd_cons (sd_for (ds := b.zipIdx.map fun q => .tuple [.int (q.2 : Int), .int q.1]) (fun i G => ∃ k1 k2, G = [.dat (.int p), .dat (dL b), .dat (.int r), .mls ((trf p r b i).map .int), k1, k2]) rfl (di_is (di_enumL T.enumerate (pd_var 1 rfl)) (enumD_map b .int)) (pg_pr 4 5 rfl sc_times_root.nd) ⟨.un, .un, ?_⟩ ?_ fun G' h => h) ?_
  · show _ = [SK.dat (.int p), .dat (dL b), .dat (.int r), .mls ((0 :: b).map .int), .un, .un]
    rw [List.append_nil]
    rfl
  · rintro i d Gi hd ⟨k1, k2, rfl⟩
    obtain ⟨⟨o, j⟩, ho, rfl⟩ := map_at hd
    have hj : j = i ∧ b[i]? = some o := by
      rw [List.getElem?_zipIdx] at ho
      cases e : b[i]? with
      | none => rw [e] at ho; cases ho
      | some y =>
        rw [e] at ho
        have := Option.some.inj ho
        injection this with h1 h2
        exact ⟨by rw [← h2, Nat.zero_add], by rw [h1]⟩
    obtain ⟨rfl, hbo⟩ := hj
    have hlt : j < b.length := (List.getElem?_eq_some_iff.mp hbo).1
    have hlt2 : j < (trf p r b j).length := by rw [trf_len]; omega
    have hget : (trf p r b j)[j]? = some ((trf p r b j).getD j 0) := by rw [List.getD_eq_getElem?_getD, List.getElem?_eq_getElem hlt2]; rfl
    refine ⟨_, .pr, sd_seq (sd_seti' 3 rfl (pd_call c hr (da_cons (pd_var 0 rfl) (da_cons (pd_sub (pd_ixM 3 (d := .int ((trf p r b j).getD j 0)) rfl (pd_var 4 rfl) (atI_nat (by rw [List.getElem?_map, hget]; rfl))) (pd_mul (pd_var 2 rfl) (pd_var 5 rfl) (cmul_l (by omega)))) da_nil)) ⟨p, _, h0, rfl, rfl⟩) (pd_var 4 rfl) (ixN_nat (by rw [List.length_map]; exact hlt2)))
      (sd_end ⟨.dat (.int (j : Int)), .dat (.int o), ?_⟩ (Weak.refl _))⟩
    have e : trf p r b (j + 1) = (trf p r b j).set j (((trf p r b j).getD j 0 - r * o) % p) := by
      unfold trf
      rw [fold_take ho]
    rw [e, ← map_set_i]
    rfl
  · rintro G1 ⟨k1, k2, rfl⟩
    refine sd_freeze 3 rfl (sd_last (sd_ret (pd_var 3 rfl) ?_))
    show PyData.list _ = PyData.list _
    rw [List.length_map]
    unfold trf
    rw [fold_all]
    rfl
end
end NL
set_option maxHeartbeats 2000000
/-! Defs of the program: through_in. -/
namespace NL
open PySem PySem.Spec PyProof.Rows L2 StX
section
variable {P : Program} {w : World} {K : PySem.W.Frag} {mg : Str → Option Value} {base : Heap} {C f : Addr} {fd : FuncData}
def encP (q : Int × Int) : PyData := .tuple [.int q.1, .int q.2]
def dP (pts : NLM.Pts) : PyData := .tuple (pts.map encP)
def R_through_in (ks : List SK) (d : PyData) : Prop := ∃ (p : Int) (pts : NLM.Pts), NLM.Good p pts ∧ pts.length ≤ 50 ∧ ks = [.dat (.int p), .dat (dP pts)] ∧ d = dI (NLM.throughIn p pts)
theorem sc_through_in : FnScope ["prime", "points", "found", "one", "value", "block", "bottom", "other", "rest", "factor", "near", "far"] ["prime", "points"] (defScope sThroughIn) := ⟨rfl, rfl, rfl, by decide +kernel, rfl, by decide +kernel, by decide +kernel⟩
theorem bs_len {p one : Int} (pts : NLM.Pts) (j : Nat) : ((pts.take j).foldl (NLM.bstep p one) ([1], 1)).1.length ≤ 1 + pts.length := by
  rw [NLM.basis_len]
  have h1 := List.length_filter_le (fun q : Int × Int => decide (q.1 ≠ one)) (pts.take j)
  rw [List.length_take] at h1
  show 1 + _ ≤ _
  omega
theorem ok_through_in (T : Free mg) (c : CalD P w K mg base C 1 "rest_of" R_rest_of) (ct : CalD P w K mg base C 2 "times_root" R_times_root) (ci : CalD P w K mg base C 2 "inverse_in" R_inverse_in) (F : FnP K "through_in" "through_in" sThroughIn [] f fd) (hm : mg "through_in" = some (.ref f)) : CalD P w K mg base C 3 "through_in" R_through_in := by
  refine cal_sd F hm sc_through_in (fun _ _ _ _ _ _ us hl => match us, hl with | [_, _], _ => rfl) (fun ks d ⟨_, _, _, _, h, _⟩ => by rw [h] <;> rfl) fun cdv A outer s H E ks d hr ⟨p, pts, g, hl, hks, hd⟩ => ?_
  subst hks hd
  have hpb := NLM.pr_pos g.pr
  have h0 : 0 < p := by omega
  refine sd_seq (sd_set 2 sc_through_in.nd (pd_rep pd_int (pd_lenT T.len (pd_var 1 rfl)) (by omega) (by rw [List.length_map]; omega))) ?_
  refine sd_cons (sd_for (fun i G => ∃ k3 k4 k5 k6 k7 k8 k9, G = [.dat (.int p), .dat (dP pts), .dat (dL ((pts.take i).foldl (NLM.tstep p pts) (List.replicate pts.length 0))), k3, k4, k5, k6, k7, k8, k9, .un, .un]) rfl (di_tup (pd_var 1 rfl)) (pg_pr 3 4 rfl sc_through_in.nd) ⟨.un, .un, .un, .un, .un, .un, .un, ?_⟩ ?_ fun G' h => h) ?_
  · show [SK.dat (.int p), .dat (dP pts), .dat (.list _), .un, .un, .un, .un, .un, .un, .un, .un, .un] = [SK.dat (.int p), .dat (dP pts), .dat (.list ((List.replicate pts.length 0).map PyData.int)), .un, .un, .un, .un, .un, .un, .un, .un, .un]
    rw [List.map_replicate, List.length_map]
    rfl
  · rintro i d Gi hd ⟨k3, k4, k5, k6, k7, k8, k9, rfl⟩
    obtain ⟨⟨one, value⟩, hq, rfl⟩ := map_at hd
    have hmem : (one, value) ∈ pts := List.mem_of_getElem? hq
    have hlo := g.lo _ hmem
    refine ⟨_, .pr, ?_⟩
    refine sd_seq (sd_par' 5 6 rfl sc_through_in.nd (pd_lst (ds_cons pd_int ds_nil) (by show 1 ≤ sizeLine; decide)) pd_int) ?_
    refine sd_cons (sd_for (fun j G => ∃ k7 k8, G = [.dat (.int p), .dat (dP pts), .dat (dL ((pts.take i).foldl (NLM.tstep p pts) (List.replicate pts.length 0))), .dat (.int one), .dat (.int value), .dat (dL ((pts.take j).foldl (NLM.bstep p one) ([1], 1)).1), .dat (.int ((pts.take j).foldl (NLM.bstep p one) ([1], 1)).2), k7, k8, k9, .un, .un]) rfl (di_tup (pd_var 1 rfl)) (pg_pr 7 8 rfl sc_through_in.nd) ⟨k7, k8, rfl⟩ ?_ fun G' h => h) ?_
    · rintro j d Gj hd ⟨k7, k8, rfl⟩
      obtain ⟨⟨other, rest⟩, hz, rfl⟩ := map_at hd
      have hlo2 := g.lo _ (List.mem_of_getElem? hz)
      refine ⟨_, .pr, sd_last (sd_if (pt_neI (pd_var 7 rfl) (pd_var 3 rfl)) (fun hne => ?_) fun heq => ?_)⟩
      · have ne : other ≠ one := fun e => by
          rw [decide_eq_true e] at hne
          cases hne
        refine sd_seq (sd_par' 5 6 rfl sc_through_in.nd (pd_call ct hr (da_cons (pd_var 0 rfl) (da_cons (pd_var 5 rfl) (da_cons (pd_var 7 rfl) da_nil))) ⟨p, _, _, g.pr, by have := bs_len (p := p) (one := one) pts j; omega, by omega, by omega, rfl, rfl⟩)
          (pd_call c hr (da_cons (pd_var 0 rfl) (da_cons (pd_mul (pd_var 6 rfl) (pd_sub (pd_var 3 rfl) (pd_var 7 rfl)) (cmul_r (by omega))) da_nil)) ⟨p, _, h0, rfl, rfl⟩)) (sd_end ⟨.dat (.int other), .dat (.int rest), ?_⟩ (Weak.refl _))
        rw [fold_take hz]
        have e : NLM.bstep p one ((pts.take j).foldl (NLM.bstep p one) ([1], 1)) (other, rest) = (NLM.timesRoot p ((pts.take j).foldl (NLM.bstep p one) ([1], 1)).1 other, (((pts.take j).foldl (NLM.bstep p one) ([1], 1)).2 * (one - other)) % p) := if_pos ne
        rw [e]
        rfl
      · have eq : other = one := by
          by_cases h : other = one
          · exact h
          · rw [decide_eq_false h] at heq
            cases heq
        refine sd_end ⟨.dat (.int other), .dat (.int rest), ?_⟩ (Weak.refl _)
        rw [fold_take hz]
        have e : NLM.bstep p one ((pts.take j).foldl (NLM.bstep p one) ([1], 1)) (other, rest) = (pts.take j).foldl (NLM.bstep p one) ([1], 1) := if_neg (fun h => h eq)
        rw [e]
        rfl
    · rintro G1 ⟨k7, k8, rfl⟩
      rw [show (List.map encP pts).length = pts.length from List.length_map .., fold_all]
      have hinv := NLM.good_inv g hmem
      have hib := NLM.inverseIn_spec hinv
      have hbl := NLM.basis_length (p := p) g.un hmem
      refine sd_seq (sd_set 9 sc_through_in.nd (d := .int (NLM.factor p pts (one, value))) (pd_call c hr (da_cons (pd_var 0 rfl) (da_cons (pd_mul (pd_var 4 rfl) (pd_call ci hr (da_cons (pd_var 0 rfl) (da_cons (pd_var 6 rfl) da_nil)) ⟨p, _, g.pr, hinv, rfl, rfl⟩) (cmul_r (by omega))) da_nil)) ⟨p, _, h0, rfl, rfl⟩)) ?_
      have fb : 0 ≤ NLM.factor p pts (one, value) ∧ NLM.factor p pts (one, value) < p := ⟨Int.emod_nonneg _ (by omega), Int.emod_lt_of_pos _ (by omega)⟩
      refine sd_seq (sd_setLc0 (own := [("near", 10), ("far", 11)]) (pt := .pr 10 11) 2 (((pts.take i).foldl (NLM.tstep p pts) (List.replicate pts.length 0)).zip (NLM.basis p pts one).1) (fun z => .tuple [.int z.1, .int z.2]) (fun z => .int ((z.1 + NLM.factor p pts (one, value) * z.2) % p))
        (gb := fun z => [.dat (.int p), .dat (dP pts), .dat (dL ((pts.take i).foldl (NLM.tstep p pts) (List.replicate pts.length 0))), .dat (.int one), .dat (.int value), .dat (dL (NLM.basis p pts one).1), .dat (.int (NLM.basis p pts one).2), k7, k8, .dat (.int (NLM.factor p pts (one, value))), .dat (.int z.1), .dat (.int z.2)])
        rfl sc_through_in.nd (di_is (di_zipL T.zip (pd_var 2 rfl) (pd_var 5 rfl)) (zipD_map _ _ _ _)) (blkOk_by rfl) (fun _ _ _ _ _ => pg_pr 10 11 rfl sc_through_in.nd) (lt_size (by rw [List.length_zip]; show min _ (NLM.basis p pts (one, value).1).1.length ≤ _; rw [hbl]; omega)) ins2 (fun x hx => .pr)
        (fun z hz s H C' cl fp => pd_call c hr (da_cons (pd_var 0 rfl) (da_cons (pd_add (pd_var 10 rfl) (pd_mul (pd_var 9 rfl) (pd_var 11 rfl) (cmul_l (by omega)))) da_nil)) ⟨p, _, h0, rfl, rfl⟩)) (sd_end ⟨.dat (.int one), .dat (.int value), .dat (dL (NLM.basis p pts one).1), .dat (.int (NLM.basis p pts one).2), k7, k8, .dat (.int (NLM.factor p pts (one, value))), ?_⟩ (Weak.refl _))
      rw [fold_take hq]
      have e : (NLM.tstep p pts ((pts.take i).foldl (NLM.tstep p pts) (List.replicate pts.length 0)) (one, value)).map PyData.int = (((pts.take i).foldl (NLM.tstep p pts) (List.replicate pts.length 0)).zip (NLM.basis p pts one).1).map fun z => .int ((z.1 + NLM.factor p pts (one, value) * z.2) % p) := by
        unfold NLM.tstep
        rw [List.map_map]
        rfl
      unfold dL
      rw [e]
      rfl
  · rintro G1 ⟨k3, k4, k5, k6, k7, k8, k9, rfl⟩
    refine sd_last (sd_ret (pd_tupleL T.tuple (pd_var 2 rfl)) ?_)
    rw [show (List.map encP pts).length = pts.length from List.length_map .., fold_all]
    rfl
end
end NL
set_option maxHeartbeats 2000000
/-! The plain law: mail. -/
namespace NLM
structure LayOk (lay : List Int) : Prop where
  l1 : 1 ≤ lay.length
  l8 : lay.length ≤ 8
  sh : ∀ s ∈ lay, 0 ≤ s ∧ s ≤ 6
  sum : lay.sum ≤ 12
abbrev Mail := List (Int × List Int)
def ptsAt (mail : Mail) (j : Nat) : Pts := mail.map fun m => (m.1 + 1, m.2.getD j 0)
structure MailOk (p : Int) (lay : List Int) (mail : Mail) : Prop where
  pr : p ∈ PR
  asc : mail.Pairwise fun a b => a.1 < b.1
  lo : ∀ m ∈ mail, 0 ≤ m.1 ∧ m.1 < lay.length
  len : ∀ m ∈ mail, m.2.length = (needsIn lay).length
  rg : ∀ m ∈ mail, ∀ s ∈ m.2, 0 ≤ s ∧ s < p
theorem asc_len : ∀ {l : Mail} {a b : Int}, l.Pairwise (fun a b => a.1 < b.1) → (∀ m ∈ l, a ≤ m.1 ∧ m.1 < b) → a ≤ b → (l.length : Int) ≤ b - a
  | [], a, b, _, _, h => by
    show (0 : Int) ≤ b - a
    omega
  | x :: r, a, b, hp, hb, h => by
    have h1 := List.pairwise_cons.mp hp
    have hx := hb x List.mem_cons_self
    have ih := asc_len (l := r) (a := x.1 + 1) (b := b) h1.2 (fun m hm => ⟨by have := h1.1 m hm; omega, (hb m (List.mem_cons_of_mem _ hm)).2⟩) (by omega)
    rw [List.length_cons]
    omega
theorem needs_len12 {lay : List Int} (h : LayOk lay) : (needsIn lay).length ≤ 12 := by
  have h1 := needsIn_len fun s hs => (h.sh s hs).1
  have h2 := h.sum
  omega
section
variable {p : Int} {lay : List Int} {mail : Mail}
theorem MailOk.short (h : MailOk p lay mail) : mail.length ≤ lay.length := by
  have := asc_len (a := 0) (b := lay.length) h.asc h.lo (by omega)
  omega
theorem MailOk.sub {l : Mail} (h : MailOk p lay mail) (s : l.Sublist mail) : MailOk p lay l :=
  ⟨h.pr, h.asc.sublist s, fun m hm => h.lo m (s.subset hm), fun m hm => h.len m (s.subset hm), fun m hm => h.rg m (s.subset hm)⟩
theorem MailOk.nil (h : p ∈ PR) : MailOk p lay [] := ⟨h, List.Pairwise.nil, fun _ h => (nomatch h), fun _ h => (nomatch h), fun _ h => (nomatch h)⟩
theorem ptsAt_len (mail : Mail) (j : Nat) : (ptsAt mail j).length = mail.length := List.length_map ..
theorem MailOk.good (h : MailOk p lay mail) (hl : LayOk lay) (j : Nat) : Good p (ptsAt mail j) := by
  refine ⟨h.pr, ?_, fun q hq => ?_⟩
  · have e : (ptsAt mail j).map (·.1) = mail.map fun m => m.1 + 1 := by
      unfold ptsAt
      rw [List.map_map]
      rfl
    show ((ptsAt mail j).map (·.1)).Nodup
    rw [e]
    unfold List.Nodup
    rw [List.pairwise_map]
    exact h.asc.imp fun {a b} z => by omega
  · unfold ptsAt at hq
    obtain ⟨m, hm, e⟩ := List.mem_map.mp hq
    have b := h.lo m hm
    have b8 := hl.l8
    rw [← e]
    exact ⟨by show 1 ≤ m.1 + 1; omega, by show m.1 + 1 ≤ 8; omega⟩
theorem MailOk.inr (h : MailOk p lay mail) (j : Nat) (hj : j < (needsIn lay).length) : InR p (ptsAt mail j) := fun q hq => by
  unfold ptsAt at hq
  obtain ⟨m, hm, e⟩ := List.mem_map.mp hq
  rw [← e]
  have hl := h.len m hm
  refine h.rg m hm _ ?_
  show m.2.getD j 0 ∈ m.2
  rw [List.getD_eq_getElem?_getD, List.getElem?_eq_getElem (by omega)]
  exact List.getElem_mem _
end
/-! ### what does not fit -/
def ins (ks : List Int) (n : Int) : List Int := if n ∈ ks then ks else ks ++ [n]
def unfitStep (p : Int) (mail : Mail) (ks : List Int) (q : Int × Nat) : List Int := if fitsP p (ptsAt mail q.2) q.1.toNat = true then ks else ins ks q.1
def unfitIn (p : Int) (lay : List Int) (mail : Mail) : List Int := (needsIn lay).zipIdx.foldl (unfitStep p mail) []
theorem ins_asc {ks : List Int} {n : Int} (h : ks.Pairwise (· < ·)) (hb : ∀ k ∈ ks, k ≤ n) : (ins ks n).Pairwise (· < ·) := by
  unfold ins
  by_cases hm : n ∈ ks
  · rw [if_pos hm]
    exact h
  · rw [if_neg hm, List.pairwise_append]
    refine ⟨h, List.pairwise_singleton _ _, fun a ha b hb' => ?_⟩
    rw [List.mem_singleton.mp hb']
    have h1 := hb a ha
    have h2 : a ≠ n := fun e => hm (e ▸ ha)
    omega
theorem ins_len (ks : List Int) (n : Int) : (ins ks n).length ≤ ks.length + 1 := by
  unfold ins
  split
  · omega
  · rw [List.length_append, List.length_singleton]
    exact Nat.le_refl _
theorem ins_mem {ks : List Int} {n k : Int} : k ∈ ins ks n ↔ k ∈ ks ∨ k = n := by
  unfold ins
  by_cases hm : n ∈ ks
  · rw [if_pos hm]
    exact ⟨.inl, fun h => h.elim id fun e => e ▸ hm⟩
  · rw [if_neg hm, List.mem_append, List.mem_singleton]
theorem unfit_fold {p : Int} {mail : Mail} : ∀ (l : List Int) (n : Nat) (ks : List Int), l.Pairwise (· ≤ ·) → ks.Pairwise (· < ·) → (∀ k ∈ ks, ∀ x ∈ l, k ≤ x) → ((l.zipIdx n).foldl (unfitStep p mail) ks).Pairwise (· < ·) ∧ ((l.zipIdx n).foldl (unfitStep p mail) ks).length ≤ ks.length + l.length
  | [], n, ks, _, h, _ => ⟨h, by
    show ks.length ≤ ks.length + 0
    omega⟩
  | x :: l, n, ks, hl, h, hb => by
    rw [List.zipIdx_cons, List.foldl_cons]
    have h1 := List.pairwise_cons.mp hl
    unfold unfitStep
    by_cases hf : fitsP p (ptsAt mail n) x.toNat = true
    · rw [if_pos hf]
      obtain ⟨a, b⟩ := unfit_fold (p := p) (mail := mail) l (n + 1) ks h1.2 h fun k hk y hy => hb k hk y (List.mem_cons_of_mem _ hy)
      exact ⟨a, Nat.le_trans b (by rw [List.length_cons]; omega)⟩
    · rw [if_neg hf]
      obtain ⟨a, b⟩ := unfit_fold (p := p) (mail := mail) l (n + 1) (ins ks x) h1.2 (ins_asc h fun k hk => hb k hk x List.mem_cons_self) fun k hk y hy => by
        rcases ins_mem.mp hk with m | m
        · exact hb k m y (List.mem_cons_of_mem _ hy)
        · rw [m]
          exact h1.1 y hy
      refine ⟨a, Nat.le_trans b ?_⟩
      have := ins_len ks x
      rw [List.length_cons]
      omega
theorem unfit_asc (p : Int) (lay : List Int) (mail : Mail) : (unfitIn p lay mail).Pairwise (· < ·) := (unfit_fold _ 0 [] (needsIn_sorted lay) List.Pairwise.nil fun _ h => nomatch h).1
theorem unfit_len (p : Int) (lay : List Int) (mail : Mail) : (unfitIn p lay mail).length ≤ (needsIn lay).length := by
  have := (unfit_fold (p := p) (mail := mail) _ 0 [] (needsIn_sorted lay) List.Pairwise.nil fun _ h => nomatch h).2
  rw [List.length_nil, Nat.zero_add] at this
  exact this
/-- sorted, the keys stand as they are -/
theorem perm_asc {ys ks : List Int} (h : ys.Perm ks) (hy : ys.Pairwise (· ≤ ·)) (hk : ks.Pairwise (· < ·)) : ys = ks :=
  h.eq_of_pairwise (fun a b _ _ h1 h2 => Int.le_antisymm h1 h2) hy (hk.imp fun {a b} z => Int.le_of_lt z)
/-! ### what is read -/
def readStep (p : Int) (mail : Mail) (f : List Int) (q : Int × Nat) : List Int := if q.1 ≤ mail.length then f ++ throughIn p ((ptsAt mail q.2).take q.1.toNat) else f
def readIn (p : Int) (lay : List Int) (mail : Mail) : List Int := (needsIn lay).zipIdx.foldl (readStep p mail) []
/-! ### suspects -/
def without (mail : Mail) (n : Int) : Mail := mail.filter fun x => !decide (x.1 = n)
def suspectsIn (p : Int) (lay : List Int) (mail : Mail) : List Int := if unfitIn p lay mail = [] then [] else (mail.filter fun m => decide (unfitIn p lay (without mail m.1) = [])).map (·.1)
end NLM
set_option maxHeartbeats 2000000
/-! Defs of the program: layings, letters. -/
namespace NL
open PySem PySem.Spec PyProof.Rows L2 StX
/-- the module's int constants -/
structure Cst (mg : Str → Option Value) : Prop where
  letters : ∃ t, mg "MOST_LETTERS" = some (.int 8 t)
  share : ∃ t, mg "MOST_SHARE" = some (.int 6 t)
  room : ∃ t, mg "MOST_ROOM" = some (.int 12 t)
section
variable {X : Cx} {C : Addr} {G : List SK} {a b e : Expr} {pos : Pos} {ds : List PyData}
/-- sorted(d) of one's own dict -/
theorem pd_sortedK (i : Nat) {x : Str} {q q1 : Pos} {ks : List Int} (hc : X.calm = true) (hm : X.mg "sorted" = none) (hk : G[i]? = some (.mdk ks)) (h64 : ks.length < 64) (ha : ks.Pairwise (· < ·)) (hN : X.N[i]? = some x := by rfl)
    (hv : Vis X.env.scope x := by first | exact Or.inl rfl | exact Or.inr (Or.inl rfl) | exact Or.inr (Or.inr rfl)) (hd : (x == ("__debug__" : Str)) = false := by decide) (hcd : (x == ("__classdict__" : Str)) = false := by decide) (hg : Gl X "sorted" := by rfl) (he : starEach [.Name x q1] X.env = (false, eval (.Name x q1) X.env) :: starEach [] X.env := by rfl) :
    PE X (.Call (.Name "sorted" q) [.Name x q1] [] pos) (tD X.K C G (dL ks)) :=
  pe_to (pe_callB (call_sortedDI hc) hg hm (by decide +kernel) (pa_cons (pe_var hN hv hd hcd) pa_nil he) (by decide) (by decide) he (by rfl)) fun σ H Q ⟨Z, Hi, S, q⟩ => by
    obtain ⟨p, h1, h2, h4, h5⟩ := S.ok i _ hk
    refine ⟨.ref p, h1, p, kvsOf ks, ks, rfl, .inl h2, by unfold kvsOf; rw [List.map_map]; rfl, h64, fun ys p' hp hs hn => ?_⟩
    rw [NLM.perm_asc hp hs ha]
    exact q _ _ _ (Ext.one S.sub hn) (new_lst S.sub (ints_dps ks) hn)
theorem cutD_to {n : Nat} : cutD ds none (some (n : Int)) = ds.take n := by
  unfold cutD
  rw [HT.sIx_none, HT.sIx_nat, List.drop_zero, Nat.sub_zero]
  by_cases h : n ≤ ds.length
  · rw [Nat.min_eq_left h]
  · rw [Nat.min_eq_right (by omega), List.take_length, List.take_of_length_le (by omega)]
theorem cutD_from {n : Nat} : cutD ds (some (n : Int)) none = ds.drop n := by
  unfold cutD
  rw [HT.sIx_none, HT.sIx_nat]
  by_cases h : n ≤ ds.length
  · rw [Nat.min_eq_left h, List.take_of_length_le (by rw [List.length_drop]; omega)]
  · rw [Nat.min_eq_right (by omega), Nat.sub_self, List.take_zero, List.drop_eq_nil_of_le (by omega)]
theorem cutD_mid {n m : Nat} : cutD ds (some (n : Int)) (some (m : Int)) = (ds.drop n).take (m - n) := by
  unfold cutD
  rw [HT.sIx_nat, HT.sIx_nat]
  by_cases h : n ≤ ds.length
  · rw [Nat.min_eq_left h]
    by_cases h2 : m ≤ ds.length
    · rw [Nat.min_eq_left h2]
    · rw [Nat.min_eq_right (by omega), List.take_of_length_le (by rw [List.length_drop]; omega), List.take_of_length_le (by rw [List.length_drop]; omega)]
  · rw [Nat.min_eq_right (by omega : ds.length ≤ n), List.drop_eq_nil_of_le (Nat.le_refl _), List.drop_eq_nil_of_le (by omega), List.take_nil, List.take_nil]
end
section
variable {P : Program} {w : World} {K : PySem.W.Frag} {mg : Str → Option Value} {base : Heap} {C f : Addr} {fd : FuncData}
def R_is_laying (ks : List SK) (d : PyData) : Prop := ∃ lay : List Int, NLM.LayOk lay ∧ ks = [.dat (dI lay)] ∧ d = .bool true
theorem sc_is_laying : FnScope ["thing", "share"] ["thing"] (defScope sIsLaying) := ⟨rfl, rfl, rfl, by decide +kernel, rfl, by decide +kernel, by decide +kernel⟩
theorem ok_is_laying (T : Free mg) (T2 : Cst mg) (c : CalD P w K mg base C 2 "is_between" R_is_between) (F : FnP K "is_laying" "is_laying" sIsLaying [] f fd) (hm : mg "is_laying" = some (.ref f)) : CalD P w K mg base C 3 "is_laying" R_is_laying := by
  refine cal_sd F hm sc_is_laying (fun _ _ _ _ _ _ us hl => match us, hl with | [_], _ => rfl) (fun ks d ⟨_, _, h, _⟩ => by rw [h] <;> rfl) fun cdv A outer s H E ks d hr ⟨lay, hl, hks, hd⟩ => ?_
  subst hks hd
  have hl1 := hl.l1
  have hl8 := hl.l8
  refine sd_seq (sd_no (pd_isT (pt_or (pt_notD (pt_valD (pd_isi (d := dI lay) (k1 := true) T.isinstance T.tuple (n := "tuple") (by decide +kernel) (pd_var 0 rfl) kit_tt))) fun _ => pw_or1 (pt_notD (pt_lele pd_int (pd_lenT T.len (pd_var 0 rfl)) (pd_gint T2.letters)))).pt ?_)) ?_
  · rw [List.length_map, decide_eq_true (show (1 : Int) ≤ lay.length by omega), decide_eq_true (show (lay.length : Int) ≤ 8 by omega)]
    rfl
  refine sd_last (sd_ret (pd_is (pd_and (k1 := true) (k2 := true) ?_ fun _ => pe_one (pd_is (pd_le (pd_sumT rfl T.sum (pd_var 0 rfl)) (pd_gint T2.room)) (by rw [decide_eq_true hl.sum]))) rfl) rfl)
  refine pd_is (pd_all (bs := lay.map fun i => decide (0 ≤ i) && decide (i ≤ 6)) rfl T.all (pd_is (pd_lc0 (own := [("share", 1)]) (pt := .nm 1) lay .int (fun i => .bool (decide (0 ≤ i) && decide (i ≤ 6))) (gb := fun i => [.dat (dI lay), .dat (.int i)]) rfl sc_is_laying.nd (di_tup (pd_var 0 rfl)) (blkOk_by rfl) (fun _ _ _ _ _ => pg_nm 1 sc_is_laying.nd) (lt_size (by omega)) ins1 (fun x hx => .nm)
    (fun x hx s H C' cl fp => pd_call c hr (da_cons (pd_var 1 rfl) (da_cons pd_int (da_cons (pd_gint T2.share) da_nil))) ⟨x, 0, 6, rfl, rfl⟩)) (by rw [List.map_map]; rfl))) ?_
  rw [all_map_id]
  congr 1
  rw [List.all_eq_true]
  intro x hx
  have := hl.sh x hx
  rw [decide_eq_true this.1, decide_eq_true this.2]
  rfl
def R_need_laying (ks : List SK) (d : PyData) : Prop := ∃ lay : List Int, NLM.LayOk lay ∧ ks = [.dat (dI lay)] ∧ d = dI lay
theorem sc_need_laying : FnScope ["thing"] ["thing"] (defScope sNeedLaying) := ⟨rfl, rfl, rfl, by decide +kernel, rfl, by decide +kernel, by decide +kernel⟩
theorem ok_need_laying (c : CalD P w K mg base C 3 "is_laying" R_is_laying) (F : FnP K "need_laying" "need_laying" sNeedLaying [] f fd) (hm : mg "need_laying" = some (.ref f)) : CalD P w K mg base C 4 "need_laying" R_need_laying := by
  refine cal_sd F hm sc_need_laying (fun _ _ _ _ _ _ us hl => match us, hl with | [_], _ => rfl) (fun ks d ⟨_, _, h, _⟩ => by rw [h] <;> rfl) fun cdv A outer s H E ks d hr ⟨lay, hl, hks, hd⟩ => ?_
  subst hks hd
  exact sd_seq (sd_no (pt_notD (k1 := true) (pt_valD (pd_call c hr (da_cons (pd_var 0 rfl) da_nil) ⟨lay, hl, rfl, rfl⟩)))) (sd_last (sd_ret (pd_var 0 rfl) rfl))
theorem zipIdx_at {α : Type} {b : List α} {i : Nat} {o : α} {j : Nat} (ho : b.zipIdx[i]? = some (o, j)) : j = i ∧ b[i]? = some o := by
  rw [List.getElem?_zipIdx] at ho
  cases e : b[i]? with
  | none => rw [e] at ho; cases ho
  | some y =>
    rw [e] at ho
    have := Option.some.inj ho
    injection this with h1 h2
    exact ⟨by rw [← h2, Nat.zero_add], by rw [h1]⟩
def encI (q : Int × Nat) : PyData := .tuple [.int (q.2 : Int), .int q.1]
theorem enum_ints (b : List Int) : enumD (b.map .int) = b.zipIdx.map encI := enumD_map b .int
theorem stair_fold_len (lay : List (Int × Nat)) : ∀ s : List Int × Int, (lay.foldl NLM.stairStep s).1.length = s.1.length + lay.length := by
  induction lay with
  | nil => exact fun s => rfl
  | cons q l ih => exact fun s => by rw [List.foldl_cons, ih]; unfold NLM.stairStep; rw [List.length_append, List.length_singleton, List.length_cons]; omega
def R_profile_in (ks : List SK) (d : PyData) : Prop := ∃ lay : List Int, NLM.LayOk lay ∧ ks = [.dat (dI lay)] ∧ d = dL (NLM.stairIn lay)
theorem sc_profile_in : FnScope ["laying", "found", "last", "spot", "share"] ["laying"] (defScope sProfileIn) := ⟨rfl, rfl, rfl, by decide +kernel, rfl, by decide +kernel, by decide +kernel⟩
theorem ok_profile_in (T : Free mg) (F : FnP K "profile_in" "profile_in" sProfileIn [] f fd) (hm : mg "profile_in" = some (.ref f)) : CalD P w K mg base C 1 "profile_in" R_profile_in := by
  refine cal_sd F hm sc_profile_in (fun _ _ _ _ _ _ us hl => match us, hl with | [_], _ => rfl) (fun ks d ⟨_, _, h, _⟩ => by rw [h] <;> rfl) fun cdv A outer s H E ks d hr ⟨lay, hl, hks, hd⟩ => ?_
  subst hks hd
  refine sd_seq (sd_parL' 1 2 rfl sc_profile_in.nd pd_int) ?_
  refine sd_cons (sd_for (fun i G => ∃ k1 k2, G = [.dat (dI lay), .mls (((lay.zipIdx.take i).foldl NLM.stairStep ([], 0)).1.map .int), .dat (.int ((lay.zipIdx.take i).foldl NLM.stairStep ([], 0)).2), k1, k2]) rfl (di_is (di_enumT T.enumerate (pd_var 0 rfl)) (enum_ints lay)) (pg_pr 3 4 rfl sc_profile_in.nd) ⟨.un, .un, rfl⟩ ?_ fun G' h => h) ?_
  · rintro i d Gi hd ⟨k1, k2, rfl⟩
    obtain ⟨⟨o, j⟩, ho, rfl⟩ := map_at hd
    obtain ⟨rfl, hbo⟩ := zipIdx_at ho
    have hsh := hl.sh o (List.mem_of_getElem? hbo)
    have hlen := stair_fold_len (lay.zipIdx.take j) ([], 0)
    rw [List.length_take, List.length_zipIdx, List.length_nil] at hlen
    have h8 := hl.l8
    refine ⟨_, .pr, sd_seq (sd_set 2 sc_profile_in.nd (pd_add (pd_var 2 rfl) (pd_mul (pd_add (pd_var 3 rfl) pd_int) (pd_var 4 rfl) (cmul_r (by omega))))) (sd_seq (sd_app' 1 rfl (pd_var 2 rfl) (lt_size (by rw [List.length_map]; omega))) (sd_end ⟨.dat (.int (j : Int)), .dat (.int o), ?_⟩ (Weak.refl _)))⟩
    rw [fold_take ho]
    show [SK.dat (dI lay), _, _, _, _] = [SK.dat (dI lay), .mls ((((lay.zipIdx.take j).foldl NLM.stairStep ([], 0)).1 ++ [((lay.zipIdx.take j).foldl NLM.stairStep ([], 0)).2 + ((j : Int) + 1) * o]).map PyData.int), _, _, _]
    rw [List.map_append]
    rfl
  · rintro G1 ⟨k1, k2, rfl⟩
    refine sd_freeze 1 rfl (sd_last (sd_ret (pd_var 1 rfl) ?_))
    rw [show (lay.zipIdx.map encI).length = lay.zipIdx.length from List.length_map .., fold_all]
    rfl
theorem needs_step_len {lay : List Int} (hl : NLM.LayOk lay) (i : Nat) : ((lay.zipIdx.take i).foldl (fun f (q : Int × Nat) => f ++ List.replicate q.1.toNat ((q.2 : Int) + 1)) []).length ≤ 6 * i := by
  have key : ∀ (l : List (Int × Nat)) (f : List Int), (∀ q ∈ l, q.1 ≤ 6) → (l.foldl (fun f (q : Int × Nat) => f ++ List.replicate q.1.toNat ((q.2 : Int) + 1)) f).length ≤ f.length + 6 * l.length := fun l => by
    induction l with
    | nil =>
      intro f _
      show f.length ≤ f.length + 6 * 0
      omega
    | cons q l ih =>
      intro f h
      rw [List.foldl_cons]
      have h1 := ih (f ++ List.replicate q.1.toNat ((q.2 : Int) + 1)) fun z hz => h z (List.mem_cons_of_mem _ hz)
      have h2 := h q List.mem_cons_self
      rw [List.length_append, List.length_replicate] at h1
      rw [List.length_cons]
      omega
  have h := key (lay.zipIdx.take i) [] fun q hq => by
    have hq2 := List.mem_of_mem_take hq
    obtain ⟨j, hj, e⟩ := List.mem_iff_getElem.mp hq2
    have e2 : lay.zipIdx[j]? = some (q.1, q.2) := by rw [List.getElem?_eq_getElem hj, e]
    exact (hl.sh _ (List.mem_of_getElem? (zipIdx_at e2).2)).2
  rw [List.length_take, List.length_nil] at h
  omega
def R_needs_in (ks : List SK) (d : PyData) : Prop := ∃ lay : List Int, NLM.LayOk lay ∧ ks = [.dat (dI lay)] ∧ d = dL (NLM.needsIn lay)
theorem sc_needs_in : FnScope ["laying", "found", "spot", "share"] ["laying"] (defScope sNeedsIn) := ⟨rfl, rfl, rfl, by decide +kernel, rfl, by decide +kernel, by decide +kernel⟩
theorem ok_needs_in (T : Free mg) (F : FnP K "needs_in" "needs_in" sNeedsIn [] f fd) (hm : mg "needs_in" = some (.ref f)) : CalD P w K mg base C 1 "needs_in" R_needs_in := by
  refine cal_sd F hm sc_needs_in (fun _ _ _ _ _ _ us hl => match us, hl with | [_], _ => rfl) (fun ks d ⟨_, _, h, _⟩ => by rw [h] <;> rfl) fun cdv A outer s H E ks d hr ⟨lay, hl, hks, hd⟩ => ?_
  subst hks hd
  refine sd_seq (sd_set 1 sc_needs_in.nd (pd_lst ds_nil (Nat.zero_le _))) ?_
  refine sd_cons (sd_for (fun i G => ∃ k1 k2, G = [.dat (dI lay), .dat (dL ((lay.zipIdx.take i).foldl (fun f (q : Int × Nat) => f ++ List.replicate q.1.toNat ((q.2 : Int) + 1)) [])), k1, k2]) rfl (di_is (di_enumT T.enumerate (pd_var 0 rfl)) (enum_ints lay)) (pg_pr 2 3 rfl sc_needs_in.nd) ⟨.un, .un, rfl⟩ ?_ fun G' h => h) ?_
  · rintro i d Gi hd ⟨k1, k2, rfl⟩
    obtain ⟨⟨o, j⟩, ho, rfl⟩ := map_at hd
    obtain ⟨rfl, hbo⟩ := zipIdx_at ho
    have hsh := hl.sh o (List.mem_of_getElem? hbo)
    have hj : j < lay.length := (List.getElem?_eq_some_iff.mp hbo).1
    have h8 := hl.l8
    have hlen := needs_step_len hl j
    refine ⟨_, .pr, sd_seq (sd_set 1 sc_needs_in.nd (pd_catL (pd_var 1 rfl) (pd_rep (pd_add (pd_var 2 rfl) pd_int) (pd_intC T.int (pd_var 3 rfl)) hsh.1 (by omega)) (Nat.le_of_lt (lt_size (by rw [List.length_map, List.length_replicate]; omega))))) (sd_end ⟨.dat (.int (j : Int)), .dat (.int o), ?_⟩ (Weak.refl _))⟩
    rw [fold_take ho]
    show [SK.dat (dI lay), _, _, _] = [SK.dat (dI lay), .dat (.list ((_ ++ List.replicate o.toNat ((j : Int) + 1)).map PyData.int)), _, _]
    rw [List.map_append, List.map_replicate]
  · rintro G1 ⟨k1, k2, rfl⟩
    refine sd_last (sd_ret (pd_var 1 rfl) ?_)
    rw [show (lay.zipIdx.map encI).length = lay.zipIdx.length from List.length_map .., fold_all]
    rfl
end
end NL
set_option maxHeartbeats 2000000
/-! Data of ints, lists and tuples: shaped, compared, shown. -/
namespace NL
open PySem PySem.Spec PyProof.Rows L2 StX
/-- ints (below 200), none, within so many tuples and lists -/
inductive Tidy : Nat → PyData → Prop
  | non {n : Nat} : Tidy n .none
  | int {n : Nat} (i : Int) : 0 ≤ i → i < 200 → Tidy n (.int i)
  | lst {n : Nat} {ds : List PyData} : (∀ d ∈ ds, Tidy n d) → Tidy (n + 1) (.list ds)
  | tup {n : Nat} {ds : List PyData} : (∀ d ∈ ds, Tidy n d) → Tidy (n + 1) (.tuple ds)
theorem canAll {ds : List PyData} : (∀ d ∈ ds, d.canLay0 = true) → PyData.canLayAll0 ds = true := by
  induction ds with
  | nil => exact fun _ => by simp only [PyData.canLayAll0]
  | cons d r ih => exact fun h => by simp only [PyData.canLayAll0, h d List.mem_cons_self, ih fun x hx => h x (List.mem_cons_of_mem _ hx), Bool.and_self]
theorem depAll {n : Nat} {ds : List PyData} : (∀ d ∈ ds, d.depth ≤ n) → PyData.depthAll ds ≤ n := by
  induction ds with
  | nil => exact fun _ => by simp only [PyData.depthAll, Nat.zero_le]
  | cons d r ih =>
    intro h
    simp only [PyData.depthAll]
    exact Nat.max_le.mpr ⟨h d List.mem_cons_self, ih fun x hx => h x (List.mem_cons_of_mem _ hx)⟩
theorem Tidy.can {n : Nat} {d : PyData} (h : Tidy n d) : d.canLay0 = true ∧ d.depth ≤ n + 1 := by
  induction h with
  | non => exact ⟨by simp only [PyData.canLay0], by simp only [PyData.depth]; omega⟩
  | int i _ _ => exact ⟨by simp only [PyData.canLay0], by simp only [PyData.depth]; omega⟩
  | lst _ ih => exact ⟨by simp only [PyData.canLay0]; exact canAll fun d hd => (ih d hd).1, by simp only [PyData.depth]; have := depAll fun d hd => (ih d hd).2; omega⟩
  | tup _ ih => exact ⟨by simp only [PyData.canLay0]; exact canAll fun d hd => (ih d hd).1, by simp only [PyData.depth]; have := depAll fun d hd => (ih d hd).2; omega⟩
theorem Tidy.shaped {n : Nat} {d : PyData} (h : Tidy n d) (hn : n ≤ 60) : SeqAt.shaped d = true := by
  obtain ⟨h1, h2⟩ := h.can
  unfold SeqAt.shaped
  rw [h1, decide_eq_true (show d.depth ≤ 64 by omega)]
  rfl
/-- any ints: shaped -/
theorem sh_ints {ns : List Int} : SeqAt.shaped (.list (ns.map .int)) = true ∧ SeqAt.shaped (.tuple (ns.map .int)) = true := by
  have h1 : PyData.canLayAll0 (ns.map PyData.int) = true := canAll fun d hd => by
    obtain ⟨i, _, rfl⟩ := List.mem_map.mp hd
    simp only [PyData.canLay0]
  have h2 : PyData.depthAll (ns.map PyData.int) ≤ 1 := depAll fun d hd => by
    obtain ⟨i, _, rfl⟩ := List.mem_map.mp hd
    simp only [PyData.depth]; omega
  unfold SeqAt.shaped
  simp only [PyData.canLay0, PyData.depth, h1, Bool.true_and, decide_eq_true_eq]
  exact ⟨decide_eq_true (by omega), decide_eq_true (by omega)⟩
theorem eqvAll_ints : ∀ ns ms : List Int, PyData.eqvAll (ns.map .int) (ms.map .int) = decide (ns = ms)
  | [], [] => by simp [PyData.eqvAll]
  | [], _ :: _ => by simp [PyData.eqvAll]
  | _ :: _, [] => by simp [PyData.eqvAll]
  | n :: r, m :: t => by
    rw [List.map_cons, List.map_cons]
    simp only [PyData.eqvAll, PyData.eqv, eqvAll_ints r t]
    rw [Bool.eq_iff_iff]
    simp only [Bool.and_eq_true, beq_iff_eq, decide_eq_true_eq, List.cons.injEq]
theorem eqv_list_ints (ns ms : List Int) : PyData.eqv (.list (ns.map .int)) (.list (ms.map .int)) = decide (ns = ms) := by
  simp only [PyData.eqv, eqvAll_ints]
theorem eqv_tup_ints (ns ms : List Int) : PyData.eqv (.tuple (ns.map .int)) (.tuple (ms.map .int)) = decide (ns = ms) := by
  simp only [PyData.eqv, eqvAll_ints]
theorem eqv_nil (ds : List PyData) : PyData.eqv (.list ds) (.list []) = ds.isEmpty := by
  cases ds <;> simp [PyData.eqv, PyData.eqvAll]
theorem eqvAll_refl {ds : List PyData} : (∀ d ∈ ds, PyData.eqv d d = true) → PyData.eqvAll ds ds = true := by
  induction ds with
  | nil => exact fun _ => by simp only [PyData.eqvAll]
  | cons d r ih => exact fun h => by simp only [PyData.eqvAll, h d List.mem_cons_self, ih fun x hx => h x (List.mem_cons_of_mem _ hx), Bool.and_self]
theorem Tidy.refl {n : Nat} {d : PyData} (h : Tidy n d) : PyData.eqv d d = true := by
  induction h with
  | non => simp only [PyData.eqv]
  | int i _ _ => simp only [PyData.eqv, beq_self_eq_true]
  | lst _ ih => simp only [PyData.eqv]; exact eqvAll_refl ih
  | tup _ ih => simp only [PyData.eqv]; exact eqvAll_refl ih
theorem Tidy.ints {ns : List Int} {n : Nat} (h : ∀ i ∈ ns, 0 ≤ i ∧ i < 200) : Tidy (n + 1) (.tuple (ns.map .int)) ∧ Tidy (n + 1) (.list (ns.map .int)) := by
  have k : ∀ d ∈ ns.map PyData.int, Tidy n d := fun d hd => by
    obtain ⟨i, hi, rfl⟩ := List.mem_map.mp hd
    exact .int i (h i hi).1 (h i hi).2
  exact ⟨.tup k, .lst k⟩
theorem short200 : ∀ n < 200, decide ((PyData.shown (.int (n : Nat))).length ≤ 13) = true := by decide +kernel
theorem shAll {B : Nat} {ds : List PyData} : (∀ d ∈ ds, PyData.intsShort B d = true) → PyData.intsShortAll B ds = true := by
  induction ds with
  | nil => exact fun _ => by simp only [PyData.intsShortAll]
  | cons d r ih => exact fun h => by simp only [PyData.intsShortAll, h d List.mem_cons_self, ih fun x hx => h x (List.mem_cons_of_mem _ hx), Bool.and_self]
theorem Tidy.short {n : Nat} {d : PyData} (h : Tidy n d) : d.intsShort 13 = true := by
  induction h with
  | non => simp only [PyData.intsShort]
  | int i h0 h1 =>
    simp only [PyData.intsShort]
    have := short200 i.toNat (by omega)
    rw [Int.toNat_of_nonneg h0] at this
    exact this
  | lst _ ih => simp only [PyData.intsShort]; exact shAll ih
  | tup _ ih => simp only [PyData.intsShort]; exact shAll ih
theorem showAll {ds : List PyData} : (∀ d ∈ ds, PyData.showable d = true) → PyData.showableAll ds = true := by
  induction ds with
  | nil => exact fun _ => by simp only [PyData.showableAll]
  | cons d r ih => exact fun h => by simp only [PyData.showableAll, h d List.mem_cons_self, ih fun x hx => h x (List.mem_cons_of_mem _ hx), Bool.and_self]
theorem log200 : ∀ n < 200, decide (n.log2 < 1920) = true := by decide +kernel
theorem Tidy.showable {n : Nat} {d : PyData} (h : Tidy n d) : d.showable = true := by
  induction h with
  | non => simp only [PyData.showable]
  | int i h0 h1 =>
    simp only [PyData.showable]
    exact log200 i.natAbs (by omega)
  | lst _ ih => simp only [PyData.showable]; exact showAll ih
  | tup _ ih => simp only [PyData.showable]; exact showAll ih
theorem wtAll {k : Nat} {ds : List PyData} : (∀ d ∈ ds, d.weight ≤ k) → PyData.weightAll ds ≤ ds.length * (k + 1) := by
  induction ds with
  | nil => exact fun _ => by simp only [PyData.weightAll, Nat.zero_le]
  | cons d r ih =>
    intro h
    simp only [PyData.weightAll]
    have h1 := h d List.mem_cons_self
    have h2 := ih fun x hx => h x (List.mem_cons_of_mem _ hx)
    rw [List.length_cons, Nat.add_mul, Nat.one_mul]
    omega
theorem wt200 : ∀ n < 200, decide ((if ((n : Nat) : Int) == 0 then 0 else ((n : Nat) : Int).natAbs.log2 + 1) ≤ 10) = true := by decide +kernel
theorem wt_int {n : Nat} {i : Int} (h : Tidy n (.int i)) : (PyData.int i).weight ≤ 10 := by
  cases h with
  | int _ h0 h1 =>
    simp only [PyData.weight]
    have := wt200 i.toNat (by omega)
    rw [Int.toNat_of_nonneg h0] at this
    exact of_decide_eq_true this
theorem wt_seq {k m : Nat} {ds : List PyData} (h : ∀ d ∈ ds, d.weight ≤ k) (hl : ds.length ≤ m) : (PyData.list ds).weight ≤ m * (k + 1) ∧ (PyData.tuple ds).weight ≤ m * (k + 1) := by
  have h1 := wtAll h
  have h2 := Nat.mul_le_mul_right (k + 1) hl
  simp only [PyData.weight]
  exact ⟨by omega, by omega⟩
theorem Tidy.len {n : Nat} {d : PyData} (h : Tidy n d) (hn : n ≤ 50) (hw : d.weight ≤ 2 ^ 20) : d.shown.length ≤ sizeLine ∧ d.showable = true ∧ d.hasDict = false ∧ d.depth ≤ 60 := by
  obtain ⟨h1, h2⟩ := h.can
  have hl : PyData.layable0 d = true := by
    unfold PyData.layable0
    rw [h1, decide_eq_true (show d.depth ≤ 64 by omega), decide_eq_true hw]
    rfl
  refine ⟨Nat.le_trans (PyProof.Rows.shown_le13 hl h.short) (by rw [sizeLine_eq]; omega), h.showable, PyData.hasDict_of_canLay d h1, by omega⟩
end NL
set_option maxHeartbeats 2000000
/-! Defs of the program: letters, suspects. -/
namespace NL
open PySem PySem.Spec PyProof.Rows L2 StX
def encM (m : Int × List Int) : PyData := .tuple [.int m.1, dI m.2]
def dM (mail : NLM.Mail) : PyData := .tuple (mail.map encM)
theorem atI_ints {ns : List Int} {j : Nat} (h : j < ns.length) : atI (ns.map PyData.int) (j : Int) = some (.int (ns.getD j 0)) :=
  atI_nat (by rw [List.getElem?_map, List.getD_eq_getElem?_getD, List.getElem?_eq_getElem h]; rfl)
section
variable {P : Program} {w : World} {K : PySem.W.Frag} {mg : Str → Option Value} {base : Heap} {C f : Addr} {fd : FuncData}
def R_points_at (ks : List SK) (d : PyData) : Prop := ∃ (mail : NLM.Mail) (j : Nat), mail.length ≤ 50 ∧ (∀ m ∈ mail, j < m.2.length) ∧ ks = [.dat (dM mail), .dat (.int (j : Int))] ∧ d = .list ((NLM.ptsAt mail j).map encP)
theorem sc_points_at : FnScope ["mail", "place", "number", "letter"] ["mail", "place"] (defScope sPointsAt) := ⟨rfl, rfl, rfl, by decide +kernel, rfl, by decide +kernel, by decide +kernel⟩
theorem ok_points_at (F : FnP K "points_at" "points_at" sPointsAt [] f fd) (hm : mg "points_at" = some (.ref f)) : CalD P w K mg base C 1 "points_at" R_points_at := by
  refine cal_sd F hm sc_points_at (fun _ _ _ _ _ _ us hl => match us, hl with | [_, _], _ => rfl) (fun ks d ⟨_, _, _, _, h, _⟩ => by rw [h] <;> rfl) fun cdv A outer s H E ks d hr ⟨mail, j, hl, hj, hks, hd⟩ => ?_
  subst hks hd
  refine sd_last (sd_ret (pd_lc0 (own := [("number", 2), ("letter", 3)]) (pt := .pr 2 3) mail encM (fun m => encP (m.1 + 1, m.2.getD j 0)) (gb := fun m => [.dat (dM mail), .dat (.int (j : Int)), .dat (.int m.1), .dat (dI m.2)]) rfl sc_points_at.nd (di_tup (pd_var 0 rfl)) (blkOk_by rfl) (fun _ _ _ _ _ => pg_pr 2 3 rfl sc_points_at.nd) (lt_size (by omega)) ins2 (fun x hx => .pr)
    (fun m hm s H C' cl fp => pd_tup (ds_cons (pd_add (pd_var 2 rfl) pd_int) (ds_cons (pd_ixT (pd_var 3 rfl) (pd_var 1 rfl) (atI_ints (hj m hm))) ds_nil)) (by show 2 ≤ sizeLine; decide))) ?_)
  unfold NLM.ptsAt
  rw [List.map_map]
  rfl
theorem map_len {α β : Type} {f : α → β} {l : List α} : (l.map f).length = l.length := List.length_map ..
def R_fits_at (ks : List SK) (d : PyData) : Prop := ∃ (p : Int) (lay : List Int) (mail : NLM.Mail) (j k : Nat), NLM.LayOk lay ∧ NLM.MailOk p lay mail ∧ j < (NLM.needsIn lay).length ∧ ks = [.dat (.int p), .dat (dM mail), .dat (.int (j : Int)), .dat (.int (k : Int))] ∧ d = .bool (NLM.fitsP p (NLM.ptsAt mail j) k)
theorem sc_fits_at : FnScope ["prime", "mail", "place", "need", "points", "block", "sign", "value"] ["prime", "mail", "place", "need"] (defScope sFitsAt) := ⟨rfl, rfl, rfl, by decide +kernel, rfl, by decide +kernel, by decide +kernel⟩
theorem ok_fits_at (T : Free mg) (c : CalD P w K mg base C 1 "points_at" R_points_at) (ct : CalD P w K mg base C 3 "through_in" R_through_in) (cv : CalD P w K mg base C 2 "value_in" R_value_in) (F : FnP K "fits_at" "fits_at" sFitsAt [] f fd) (hm : mg "fits_at" = some (.ref f)) : CalD P w K mg base C 4 "fits_at" R_fits_at := by
  refine cal_sd F hm sc_fits_at (fun _ _ _ _ _ _ us hl => match us, hl with | [_, _, _, _], _ => rfl) (fun ks d ⟨_, _, _, _, _, _, _, _, h, _⟩ => by rw [h] <;> rfl) fun cdv A outer s H E ks d hr ⟨p, lay, mail, j, k, hl, hM, hj, hks, hd⟩ => ?_
  subst hks hd
  have g := hM.good hl j
  have hsh := hM.short
  have h8 := hl.l8
  have hlen := NLM.ptsAt_len mail j
  have hlm : ∀ m ∈ mail, j < m.2.length := fun m hm => by rw [hM.len m hm]; exact hj
  refine sd_seq (sd_set 4 sc_fits_at.nd (pd_call c hr (da_cons (pd_var 1 rfl) (da_cons (pd_var 2 rfl) da_nil)) ⟨mail, j, by omega, hlm, rfl, rfl⟩)) ?_
  refine sd_cons (M := fun G => ¬ (NLM.ptsAt mail j).length ≤ k ∧ G = [.dat (.int p), .dat (dM mail), .dat (.int (j : Int)), .dat (.int (k : Int)), .dat (.list ((NLM.ptsAt mail j).map encP)), .un, .un, .un]) (sd_if (pt_le (pd_lenL T.len (pd_var 4 rfl)) (pd_var 3 rfl)) (fun h => ?_) fun h => ?_) ?_
  · refine sd_last (sd_ret pd_bool ?_)
    have h' := of_decide_eq_true h
    rw [map_len] at h'
    unfold NLM.fitsP
    rw [decide_eq_true (show (NLM.ptsAt mail j).length ≤ k by omega), Bool.true_or]
  · refine sd_end ⟨?_, rfl⟩ (Weak.refl _)
    have h' := of_decide_eq_false h
    rw [map_len] at h'
    omega
  · rintro G ⟨hk, rfl⟩
    have g1 := g.sub (List.take_sublist k (NLM.ptsAt mail j))
    refine sd_seq (sd_set 5 sc_fits_at.nd (d := dI (NLM.throughIn p ((NLM.ptsAt mail j).take k))) (pd_call ct hr (da_cons (pd_var 0 rfl) (da_cons (pd_is (pd_tupleL T.tuple (pd_slL (pd_var 4 rfl) do_none (do_some (pd_var 3 rfl)))) (by rw [cutD_to, ← List.map_take]; rfl)) da_nil)) ⟨p, (NLM.ptsAt mail j).take k, g1, by rw [List.length_take]; omega, rfl, rfl⟩)) ?_
    refine sd_last (sd_ret (pd_all (bs := ((NLM.ptsAt mail j).drop k).map fun q => decide (NLM.valueIn p (NLM.throughIn p ((NLM.ptsAt mail j).take k)) q.1 = q.2)) rfl T.all (pd_is (pd_lc0 (own := [("sign", 6), ("value", 7)]) (pt := .pr 6 7) ((NLM.ptsAt mail j).drop k) encP (fun q => .bool (decide (NLM.valueIn p (NLM.throughIn p ((NLM.ptsAt mail j).take k)) q.1 = q.2)))
      (gb := fun q => [.dat (.int p), .dat (dM mail), .dat (.int (j : Int)), .dat (.int (k : Int)), .dat (.list ((NLM.ptsAt mail j).map encP)), .dat (dI (NLM.throughIn p ((NLM.ptsAt mail j).take k))), .dat (.int q.1), .dat (.int q.2)]) rfl sc_fits_at.nd (di_is (di_list (pd_slL (pd_var 4 rfl) (do_some (pd_var 3 rfl)) do_none)) (by rw [cutD_from, List.map_drop])) (blkOk_by rfl) (fun _ _ _ _ _ => pg_pr 6 7 rfl sc_fits_at.nd) (lt_size (by rw [List.length_drop]; omega)) ins2 (fun x hx => .pr)
      (fun q hq s H C' cl fp => pd_eqI (pd_call cv hr (da_cons (pd_var 0 rfl) (da_cons (pd_var 5 rfl) (da_cons (pd_var 6 rfl) da_nil))) ⟨p, _, q.1, g.pr, by have := g.lo q (List.mem_of_mem_drop hq); omega, by have := g.lo q (List.mem_of_mem_drop hq); omega, rfl, rfl⟩) (pd_var 7 rfl))) (by rw [List.map_map]; rfl))) ?_)
    rw [all_map_id]
    unfold NLM.fitsP
    rw [decide_eq_false hk, Bool.false_or]
theorem needs_nat {lay : List Int} {n : Int} (h : n ∈ NLM.needsIn lay) : ((n.toNat : Nat) : Int) = n := by
  have := NLM.needsIn_range n h
  omega
theorem insK_eq (ks : List Int) (n : Int) : insK ks n = NLM.ins ks n := rfl
def R_unfit_in (ks : List SK) (d : PyData) : Prop := ∃ (p : Int) (lay : List Int) (mail : NLM.Mail), NLM.LayOk lay ∧ NLM.MailOk p lay mail ∧ ks = [.dat (.int p), .dat (dI lay), .dat (dM mail)] ∧ d = dL (NLM.unfitIn p lay mail)
theorem sc_unfit_in : FnScope ["prime", "laying", "mail", "found", "place", "need"] ["prime", "laying", "mail"] (defScope sUnfitIn) := ⟨rfl, rfl, rfl, by decide +kernel, rfl, by decide +kernel, by decide +kernel⟩
theorem ok_unfit_in (T : Free mg) (cn : CalD P w K mg base C 1 "needs_in" R_needs_in) (cf : CalD P w K mg base C 4 "fits_at" R_fits_at) (F : FnP K "unfit_in" "unfit_in" sUnfitIn [] f fd) (hm : mg "unfit_in" = some (.ref f)) : CalD P w K mg base C 5 "unfit_in" R_unfit_in := by
  refine cal_sd F hm sc_unfit_in (fun _ _ _ _ _ _ us hl => match us, hl with | [_, _, _], _ => rfl) (fun ks d ⟨_, _, _, _, _, h, _⟩ => by rw [h] <;> rfl) fun cdv A outer s H E ks d hr ⟨p, lay, mail, hl, hM, hks, hd⟩ => ?_
  subst hks hd
  have h12 := NLM.needs_len12 hl
  refine sd_seq (sd_newD 3 sc_unfit_in.nd) ?_
  refine sd_cons (sd_for (ds := (NLM.needsIn lay).zipIdx.map encI) (fun i G => ∃ ks k1 k2, ks.length ≤ i ∧ ks = ((NLM.needsIn lay).zipIdx.take i).foldl (NLM.unfitStep p mail) [] ∧ G = [.dat (.int p), .dat (dI lay), .dat (dM mail), .mdk ks, k1, k2]) rfl (di_is (di_enumL T.enumerate (pd_call cn hr (da_cons (pd_var 1 rfl) da_nil) ⟨lay, hl, rfl, rfl⟩)) (enum_ints (NLM.needsIn lay))) (pg_pr 4 5 rfl sc_unfit_in.nd) ⟨[], .un, .un, Nat.le_refl _, rfl, rfl⟩ ?_ fun G' h => h) ?_
  · rintro i d Gi hd ⟨ks, k1, k2, hk, hks, rfl⟩
    obtain ⟨⟨n, j⟩, ho, rfl⟩ := map_at hd
    obtain ⟨rfl, hbo⟩ := zipIdx_at ho
    have hj : j < (NLM.needsIn lay).length := (List.getElem?_eq_some_iff.mp hbo).1
    have hn := needs_nat (List.mem_of_getElem? hbo)
    refine ⟨_, .pr, sd_last (sd_if (pt_notD (pt_valD (pd_call cf hr (da_cons (pd_var 0 rfl) (da_cons (pd_var 2 rfl) (da_cons (pd_var 4 rfl) (da_cons (pd_is (pd_var 5 rfl) (congrArg PyData.int hn.symm)) da_nil)))) ⟨p, lay, mail, j, n.toNat, hl, hM, hj, rfl, rfl⟩))) (fun h => ?_) fun h => ?_)⟩
    · have hf : ¬ NLM.fitsP p (NLM.ptsAt mail j) n.toNat = true := fun e => by rw [e] at h; cases h
      refine sd_seq (sd_dput' 3 hr rfl (lt_size (by omega)) pd_bool (pd_var 5 rfl)) (sd_end ⟨insK ks n, .dat (.int (j : Int)), .dat (.int n), ?_, ?_, rfl⟩ (Weak.refl _))
      · have := NLM.ins_len ks n
        rw [insK_eq]
        omega
      · rw [fold_take ho, ← hks]
        exact (if_neg hf).symm
    · have hf : NLM.fitsP p (NLM.ptsAt mail j) n.toNat = true := by
        cases e : NLM.fitsP p (NLM.ptsAt mail j) n.toNat with
        | true => rfl
        | false => rw [e] at h; cases h
      refine sd_end ⟨ks, .dat (.int (j : Int)), .dat (.int n), by omega, ?_, rfl⟩ (Weak.refl _)
      rw [fold_take ho, ← hks]
      exact (if_pos hf).symm
  · rintro G1 ⟨ks, k1, k2, hk, hks, rfl⟩
    rw [map_len, fold_all] at hks
    have hks : ks = NLM.unfitIn p lay mail := hks
    subst hks
    exact sd_last (sd_ret (pd_sortedK 3 rfl T.sorted rfl (by have := NLM.unfit_len p lay mail; omega) (NLM.unfit_asc p lay mail)) rfl)
def R_read_in (ks : List SK) (d : PyData) : Prop := ∃ (p : Int) (lay : List Int) (mail : NLM.Mail), NLM.LayOk lay ∧ NLM.MailOk p lay mail ∧ ks = [.dat (.int p), .dat (dI lay), .dat (dM mail)] ∧ d = dI (NLM.readIn p lay mail)
theorem sc_read_in : FnScope ["prime", "laying", "mail", "found", "place", "need"] ["prime", "laying", "mail"] (defScope sReadIn) := ⟨rfl, rfl, rfl, by decide +kernel, rfl, by decide +kernel, by decide +kernel⟩
theorem ok_read_in (T : Free mg) (cn : CalD P w K mg base C 1 "needs_in" R_needs_in) (c : CalD P w K mg base C 1 "points_at" R_points_at) (ct : CalD P w K mg base C 3 "through_in" R_through_in) (F : FnP K "read_in" "read_in" sReadIn [] f fd) (hm : mg "read_in" = some (.ref f)) : CalD P w K mg base C 4 "read_in" R_read_in := by
  refine cal_sd F hm sc_read_in (fun _ _ _ _ _ _ us hl => match us, hl with | [_, _, _], _ => rfl) (fun ks d ⟨_, _, _, _, _, h, _⟩ => by rw [h] <;> rfl) fun cdv A outer s H E ks d hr ⟨p, lay, mail, hl, hM, hks, hd⟩ => ?_
  subst hks hd
  have h12 := NLM.needs_len12 hl
  have h8 := hl.l8
  have hsh := hM.short
  refine sd_seq (sd_set 3 sc_read_in.nd (pd_tup ds_nil (Nat.zero_le _))) ?_
  refine sd_cons (sd_for (ds := (NLM.needsIn lay).zipIdx.map encI) (fun i G => ∃ f k1 k2, f.length ≤ 8 * i ∧ f = ((NLM.needsIn lay).zipIdx.take i).foldl (NLM.readStep p mail) [] ∧ G = [.dat (.int p), .dat (dI lay), .dat (dM mail), .dat (dI f), k1, k2]) rfl (di_is (di_enumL T.enumerate (pd_call cn hr (da_cons (pd_var 1 rfl) da_nil) ⟨lay, hl, rfl, rfl⟩)) (enum_ints (NLM.needsIn lay))) (pg_pr 4 5 rfl sc_read_in.nd) ⟨[], .un, .un, Nat.le_refl _, rfl, rfl⟩ ?_ fun G' h => h) ?_
  · rintro i d Gi hd ⟨f, k1, k2, hk, hks, rfl⟩
    obtain ⟨⟨n, j⟩, ho, rfl⟩ := map_at hd
    obtain ⟨rfl, hbo⟩ := zipIdx_at ho
    have hj : j < (NLM.needsIn lay).length := (List.getElem?_eq_some_iff.mp hbo).1
    have hmem := List.mem_of_getElem? hbo
    have hn := needs_nat hmem
    have hnr := NLM.needsIn_range n hmem
    have hlm : ∀ m ∈ mail, j < m.2.length := fun m hm => by rw [hM.len m hm]; exact hj
    have g := hM.good hl j
    have g1 := g.sub (List.take_sublist n.toNat (NLM.ptsAt mail j))
    have hplen := NLM.ptsAt_len mail j
    have htl : (NLM.throughIn p ((NLM.ptsAt mail j).take n.toNat)).length ≤ 8 := by
      rw [NLM.through_len g1.un, List.length_take]
      omega
    refine ⟨_, .pr, sd_last (sd_if (pt_le (pd_var 5 rfl) (pd_lenT T.len (pd_var 2 rfl))) (fun h => ?_) fun h => ?_)⟩
    · have h' := of_decide_eq_true h
      rw [map_len] at h'
      refine sd_seq (sd_set 3 sc_read_in.nd (pd_catT (ds := f.map .int) (es := (NLM.throughIn p ((NLM.ptsAt mail j).take n.toNat)).map .int) (pd_var 3 rfl) (pd_call ct hr (da_cons (pd_var 0 rfl) (da_cons (pd_is (pd_tupleL T.tuple (pd_slL (pd_call c hr (da_cons (pd_var 2 rfl) (da_cons (pd_var 4 rfl) da_nil)) ⟨mail, j, by omega, hlm, rfl, rfl⟩) do_none (do_some (pd_is (pd_var 5 rfl) (congrArg PyData.int hn.symm))))) (by rw [cutD_to, ← List.map_take]; rfl)) da_nil)) ⟨p, (NLM.ptsAt mail j).take n.toNat, g1, by rw [List.length_take]; omega, rfl, rfl⟩) (Nat.le_of_lt (lt_size (by rw [map_len, map_len]; omega)))))
        (sd_end ⟨f ++ NLM.throughIn p ((NLM.ptsAt mail j).take n.toNat), .dat (.int (j : Int)), .dat (.int n), ?_, ?_, ?_⟩ (Weak.refl _))
      · rw [List.length_append]
        omega
      · rw [fold_take ho, ← hks]
        exact (if_pos h').symm
      · unfold dI
        rw [List.map_append]
        rfl
    · have h' := of_decide_eq_false h
      rw [map_len] at h'
      refine sd_end ⟨f, .dat (.int (j : Int)), .dat (.int n), by omega, ?_, rfl⟩ (Weak.refl _)
      rw [fold_take ho, ← hks]
      exact (if_neg h').symm
  · rintro G1 ⟨f, k1, k2, hk, hks, rfl⟩
    rw [map_len, fold_all] at hks
    exact sd_last (sd_ret (pd_var 3 rfl) (by rw [hks]; rfl))
theorem dL_nil {ns : List Int} : PyData.eqv (dL ns) (.list []) = decide (ns = []) := by
  unfold dL
  rw [eqv_nil]
  cases ns <;> simp
theorem sh_nil : SeqAt.shaped (.list []) = true := (sh_ints (ns := [])).1
def R_suspects_in (ks : List SK) (d : PyData) : Prop := ∃ (p : Int) (lay : List Int) (mail : NLM.Mail), NLM.LayOk lay ∧ NLM.MailOk p lay mail ∧ ks = [.dat (.int p), .dat (dI lay), .dat (dM mail)] ∧ d = dL (NLM.suspectsIn p lay mail)
theorem sc_suspects_in : FnScope ["by_prime", "by_laying", "came", "found", "number", "letter", "rest", "pair"] ["by_prime", "by_laying", "came"] (defScope sSuspectsIn) := ⟨rfl, rfl, rfl, by decide +kernel, rfl, by decide +kernel, by decide +kernel⟩
theorem ok_suspects_in (T : Free mg) (cu : CalD P w K mg base C 5 "unfit_in" R_unfit_in) (F : FnP K "suspects_in" "suspects_in" sSuspectsIn [] f fd) (hm : mg "suspects_in" = some (.ref f)) : CalD P w K mg base C 6 "suspects_in" R_suspects_in := by
  refine cal_sd F hm sc_suspects_in (fun _ _ _ _ _ _ us hl => match us, hl with | [_, _, _], _ => rfl) (fun ks d ⟨_, _, _, _, _, h, _⟩ => by rw [h] <;> rfl) fun cdv A outer s H E ks d hr ⟨p, lay, mail, hl, hM, hks, hd⟩ => ?_
  subst hks hd
  have h8 := hl.l8
  have hsh := hM.short
  refine sd_cons (M := fun G => ¬ NLM.unfitIn p lay mail = [] ∧ G = [.dat (.int p), .dat (dI lay), .dat (dM mail), .un, .un, .un, .un, .un]) (sd_if (pd_isT (pt_eq hr (pd_call cu hr (da_cons (pd_var 0 rfl) (da_cons (pd_var 1 rfl) (da_cons (pd_var 2 rfl) da_nil))) ⟨p, lay, mail, hl, hM, rfl, rfl⟩) (pd_lst ds_nil (Nat.zero_le _)) sh_ints.1 sh_nil) dL_nil) (fun h => ?_) fun h => ?_) ?_
  · refine sd_last (sd_ret (pd_lst ds_nil (Nat.zero_le _)) ?_)
    unfold NLM.suspectsIn
    rw [if_pos (of_decide_eq_true h)]
    rfl
  · exact sd_end ⟨of_decide_eq_false h, rfl⟩ (Weak.refl _)
  · rintro G ⟨hne, rfl⟩
    refine sd_seq (sd_newL 3 sc_suspects_in.nd) ?_
    refine sd_cons (sd_for (fun i G => ∃ k4 k5 k6, G = [.dat (.int p), .dat (dI lay), .dat (dM mail), .mls ((((mail.take i).filter fun m => decide (NLM.unfitIn p lay (NLM.without mail m.1) = [])).map (·.1)).map .int), k4, k5, k6, .un]) rfl (di_tup (pd_var 2 rfl)) (pg_pr 4 5 rfl sc_suspects_in.nd) ⟨.un, .un, .un, rfl⟩ ?_ fun G' h => h) ?_
    · rintro i d Gi hd ⟨k4, k5, k6, rfl⟩
      obtain ⟨⟨n, letter⟩, ho, rfl⟩ := map_at hd
      have hi : i < mail.length := (List.getElem?_eq_some_iff.mp ho).1
      refine ⟨_, .pr, sd_seq (sd_set 6 sc_suspects_in.nd (d := dM (NLM.without mail n)) (pd_tupleL T.tuple (pd_lcT (own := [("pair", 7)]) (pt := .nm 7) mail encM (fun x => !decide (x.1 = n)) encM
        (gb := fun x => [.dat (.int p), .dat (dI lay), .dat (dM mail), .mls ((((mail.take i).filter fun m => decide (NLM.unfitIn p lay (NLM.without mail m.1) = [])).map (·.1)).map .int), .dat (.int n), .dat (dI letter), k6, .dat (encM x)]) rfl sc_suspects_in.nd (di_tup (pd_var 2 rfl)) (blkOk_by rfl) (fun _ _ _ _ _ => pg_nm 7 sc_suspects_in.nd) (lt_size (by omega)) ins1 (fun x hx => .nm)
        (fun x hx s H C' cl fp => pts_one (pt_neI (pd_ixT (d := .int x.1) (pd_var 7 rfl) pd_int (atI_nat (j := 0) rfl)) (pd_var 4 rfl))) (fun x hx hb s H C' cl fp => pd_var 7 rfl)))) ?_⟩
      have hM2 : NLM.MailOk p lay (NLM.without mail n) := hM.sub List.filter_sublist
      refine sd_last (sd_if (pd_isT (pt_eq hr (pd_call cu hr (da_cons (pd_var 0 rfl) (da_cons (pd_var 1 rfl) (da_cons (pd_var 6 rfl) da_nil))) ⟨p, lay, NLM.without mail n, hl, hM2, rfl, rfl⟩) (pd_lst ds_nil (Nat.zero_le _)) sh_ints.1 sh_nil) dL_nil) (fun h => ?_) fun h => ?_)
      · refine sd_seq (sd_app' 3 rfl (pd_var 4 rfl) (lt_size ?_)) (sd_end ⟨.dat (.int n), .dat (dI letter), .dat (dM (NLM.without mail n)), ?_⟩ (Weak.refl _))
        · rw [map_len, map_len]
          have := List.length_filter_le (fun m => decide (NLM.unfitIn p lay (NLM.without mail m.1) = [])) (mail.take i)
          rw [List.length_take] at this
          omega
        · rw [take_filter_map _ _ ho, if_pos h, List.map_append]
          rfl
      · refine sd_end ⟨.dat (.int n), .dat (dI letter), .dat (dM (NLM.without mail n)), ?_⟩ (Weak.refl _)
        rw [take_filter_map _ _ ho, if_neg (by rw [h]; exact Bool.false_ne_true), List.append_nil]
        rfl
    · rintro G1 ⟨k4, k5, k6, rfl⟩
      refine sd_freeze 3 rfl (sd_last (sd_ret (pd_var 3 rfl) ?_))
      rw [map_len, List.take_length]
      unfold NLM.suspectsIn
      rw [if_neg hne]
      rfl
end
end NL
set_option maxHeartbeats 2000000
/-! The plain law: what is read is right, what is unaltered fits, what grows goes on, one altered is found. -/
namespace NLM
theorem law_inv {p : Int} {pts : Pts} (g : Good p pts) (x : Int) {q : Int × Int} (h : q ∈ pts) : inverses p ((lawTB pts x q).2 % p) ≠ [] := by
  have h1 := good_inv g h
  have e : Cg p (basis p pts q.1).2 ((lawTB pts x q).2 % p) := by
    refine (basis_bot pts q.1).trans ?_
    unfold lawTB
    rw [lawTB_fold]
    refine (Cg.of_eq ?_).trans (Cg.mod p _).symm
    show _ = 1 * prodO q.1 q.1 pts
    rw [Int.one_mul]
  rw [← inverses_cg e]
  exact h1
/-! ### fitting everywhere -/
theorem unfit_mem {p : Int} {mail : Mail} (k : Int) : ∀ (l : List Int) (s : Nat) (ks : List Int), k ∈ (l.zipIdx s).foldl (unfitStep p mail) ks ↔ k ∈ ks ∨ ∃ i, l[i]? = some k ∧ ¬ fitsP p (ptsAt mail (s + i)) k.toNat = true
  | [], s, ks => ⟨.inl, fun h => h.elim id fun ⟨i, h, _⟩ => by simp at h⟩
  | x :: l, s, ks => by
    rw [List.zipIdx_cons, List.foldl_cons, unfit_mem k l (s + 1)]
    have e : k ∈ unfitStep p mail ks (x, s) ↔ k ∈ ks ∨ (x = k ∧ ¬ fitsP p (ptsAt mail s) k.toNat = true) := by
      unfold unfitStep
      by_cases hf : fitsP p (ptsAt mail s) x.toNat = true
      · rw [if_pos hf]
        exact ⟨.inl, fun h => h.elim id fun ⟨a, b⟩ => absurd (a ▸ hf) b⟩
      · rw [if_neg hf, ins_mem]
        exact ⟨fun h => h.elim .inl fun e => .inr ⟨e.symm, by rw [e]; exact hf⟩, fun h => h.elim .inl fun ⟨a, _⟩ => .inr a.symm⟩
    rw [e]
    constructor
    · rintro ((h | ⟨h1, h2⟩) | ⟨i, h1, h2⟩)
      · exact .inl h
      · exact .inr ⟨0, by rw [h1]; rfl, h2⟩
      · exact .inr ⟨i + 1, h1, by rw [show s + (i + 1) = s + 1 + i by omega]; exact h2⟩
    · rintro (h | ⟨i, h1, h2⟩)
      · exact .inl (.inl h)
      · cases i with
        | zero => exact .inl (.inr ⟨Option.some.inj h1, h2⟩)
        | succ i => exact .inr ⟨i, h1, by rw [show s + 1 + i = s + (i + 1) by omega]; exact h2⟩
theorem unfit_nil {p : Int} {lay : List Int} {mail : Mail} : unfitIn p lay mail = [] ↔ ∀ (i : Nat) (n : Int), (needsIn lay)[i]? = some n → fitsP p (ptsAt mail i) n.toNat = true := by
  rw [List.eq_nil_iff_forall_not_mem]
  constructor
  · intro h i n hn
    by_cases hf : fitsP p (ptsAt mail i) n.toNat = true
    · exact hf
    · exact absurd ((unfit_mem n _ 0 []).mpr (.inr ⟨i, hn, by rw [Nat.zero_add]; exact hf⟩)) (h n)
  · intro h k hk
    rcases (unfit_mem k _ 0 []).mp hk with m | ⟨i, h1, h2⟩
    · cases m
    · rw [Nat.zero_add] at h2
      exact h2 (h i k h1)
/-! ### reading -/
/-- in general: what is appended for the needs up to c -/
def catStep (c : Int) (T : Nat → Int → List Int) (f : List Int) (q : Int × Nat) : List Int := if q.1 ≤ c then f ++ T q.2 q.1 else f
theorem cat_from (c : Int) (T : Nat → Int → List Int) : ∀ (l : List (Int × Nat)) (f : List Int), l.foldl (catStep c T) f = f ++ l.foldl (catStep c T) []
  | [], f => (List.append_nil f).symm
  | q :: l, f => by
    rw [List.foldl_cons, List.foldl_cons, cat_from c T l, cat_from c T l (catStep c T [] q)]
    unfold catStep
    by_cases h : q.1 ≤ c
    · rw [if_pos h, if_pos h, List.nil_append, List.append_assoc]
    · rw [if_neg h, if_neg h, List.nil_append]
theorem cat_none {c : Int} {T : Nat → Int → List Int} : ∀ {l : List Int} {s : Nat} {f : List Int}, (∀ n ∈ l, c < n) → (l.zipIdx s).foldl (catStep c T) f = f
  | [], _, _, _ => rfl
  | x :: l, s, f, h => by
    rw [List.zipIdx_cons, List.foldl_cons]
    have e : catStep c T f (x, s) = f := if_neg (by have := h x List.mem_cons_self; show ¬ x ≤ c; omega)
    rw [e]
    exact cat_none fun n hn => h n (List.mem_cons_of_mem _ hn)
theorem cat_prefix {c d : Int} {T U : Nat → Int → List Int} (hcd : c ≤ d) : ∀ (l : List Int) (s : Nat) (f : List Int), l.Pairwise (· ≤ ·) → (∀ (i : Nat) (n : Int), l[i]? = some n → n ≤ c → T (s + i) n = U (s + i) n) → (l.zipIdx s).foldl (catStep c T) f <+: (l.zipIdx s).foldl (catStep d U) f
  | [], s, f, _, _ => List.prefix_refl _
  | x :: l, s, f, hp, h => by
    have h1 := List.pairwise_cons.mp hp
    rw [List.zipIdx_cons, List.foldl_cons, List.foldl_cons]
    by_cases hx : x ≤ c
    · have e1 : catStep c T f (x, s) = f ++ T s x := if_pos hx
      have e2 : catStep d U f (x, s) = f ++ U s x := if_pos (by show x ≤ d; omega)
      have e3 : T s x = U s x := h 0 x rfl hx
      rw [e1, e2, e3]
      exact cat_prefix hcd l (s + 1) _ h1.2 fun i n hn hc => by
        rw [show s + 1 + i = s + (i + 1) by omega]
        exact h (i + 1) n hn hc
    · have e1 : catStep c T f (x, s) = f := if_neg hx
      rw [e1, cat_none fun n hn => by have := h1.1 n hn; omega, cat_from d U]
      unfold catStep
      by_cases hd : x ≤ d
      · rw [if_pos hd, List.append_assoc]
        exact List.prefix_append _ _
      · rw [if_neg hd]
        exact List.prefix_append _ _
theorem cat_len {c : Int} {T : Nat → Int → List Int} : ∀ (l : List Int) (s : Nat) (f : List Int), (∀ (i : Nat) (n : Int), l[i]? = some n → n ≤ c → ((T (s + i) n).length : Int) = n) → (((l.zipIdx s).foldl (catStep c T) f).length : Int) = f.length + sumLe c l
  | [], s, f, _ => by
    show ((f.length : Nat) : Int) = f.length + 0
    omega
  | x :: l, s, f, h => by
    rw [List.zipIdx_cons, List.foldl_cons, cat_len l (s + 1) _ fun i n hn hc => by
      rw [show s + 1 + i = s + (i + 1) by omega]
      exact h (i + 1) n hn hc]
    unfold sumLe
    by_cases hx : x ≤ c
    · have e1 : catStep c T f (x, s) = f ++ T s x := if_pos hx
      have e2 : ((T s x).length : Int) = x := h 0 x rfl hx
      rw [e1, List.length_append, List.filter_cons_of_pos (p := fun k => decide (k ≤ c)) (decide_eq_true hx), List.sum_cons]
      omega
    · have e1 : catStep c T f (x, s) = f := if_neg hx
      rw [e1, List.filter_cons_of_neg (p := fun k => decide (k ≤ c)) (by rw [decide_eq_false hx]; exact Bool.false_ne_true)]
/-- the part at a place -/
theorem cat_part {c : Int} {T : Nat → Int → List Int} {l : List (Int × Nat)} {i j : Nat} {n : Int} (h : l[i]? = some (n, j)) (hn : n ≤ c) : ((l.foldl (catStep c T) []).drop ((l.take i).foldl (catStep c T) []).length).take (T j n).length = T j n := by
  have e : l = l.take i ++ (n, j) :: l.drop (i + 1) := by
    have hi : i < l.length := (List.getElem?_eq_some_iff.mp h).1
    have e2 : l.drop i = (n, j) :: l.drop (i + 1) := by
      rw [List.drop_eq_getElem_cons hi]
      rw [List.getElem?_eq_getElem hi] at h
      rw [Option.some.inj h]
    rw [← e2, List.take_append_drop]
  have e3 : l.foldl (catStep c T) [] = (l.take i).foldl (catStep c T) [] ++ (T j n ++ (l.drop (i + 1)).foldl (catStep c T) []) := by
    conv => lhs; rw [e]
    rw [List.foldl_append, List.foldl_cons, cat_from c T (l.drop (i + 1))]
    have e4 : catStep c T ((l.take i).foldl (catStep c T) []) (n, j) = (l.take i).foldl (catStep c T) [] ++ T j n := if_pos hn
    rw [e4, List.append_assoc]
  rw [e3, List.drop_left, List.take_left]
def tAt (p : Int) (mail : Mail) (j : Nat) (n : Int) : List Int := throughIn p ((ptsAt mail j).take n.toNat)
theorem readStep_cat (p : Int) (mail : Mail) : readStep p mail = catStep mail.length (tAt p mail) := rfl
section
variable {p : Int} {lay : List Int} {mail : Mail}
theorem tAt_len (hl : LayOk lay) (h : MailOk p lay mail) {j : Nat} {n : Int} (h0 : 0 ≤ n) (hn : n ≤ mail.length) : ((tAt p mail j n).length : Int) = n := by
  unfold tAt
  rw [through_len ((h.good hl j).sub (List.take_sublist _ _)).un, List.length_take, ptsAt_len]
  omega
/-- as many signs as R says -/
theorem read_len (hl : LayOk lay) (h : MailOk p lay mail) : (0 :: stairIn lay)[mail.length]? = some ((readIn p lay mail).length : Int) := by
  rw [stairIn_at (fun s hs => (hl.sh s hs).1) h.short]
  congr 1
  have e := cat_len (c := mail.length) (T := tAt p mail) (needsIn lay) 0 [] fun i n hn hc => by
    have := needsIn_range n (List.mem_of_getElem? hn)
    exact tAt_len hl h (by omega) hc
  unfold readIn
  rw [readStep_cat, e]
  show _ = ((0 : Nat) : Int) + _
  omega
theorem cat_mem {c : Int} {T : Nat → Int → List Int} {a : Int} : ∀ (l : List (Int × Nat)) (f : List Int), a ∈ l.foldl (catStep c T) f → a ∈ f ∨ ∃ q ∈ l, a ∈ T q.2 q.1
  | [], f, h => .inl h
  | q :: l, f, h => by
    rcases cat_mem l _ h with m | ⟨z, hz, m⟩
    · unfold catStep at m
      split at m
      · rcases List.mem_append.mp m with m | m
        · exact .inl m
        · exact .inr ⟨q, List.mem_cons_self, m⟩
      · exact .inl m
    · exact .inr ⟨z, List.mem_cons_of_mem _ hz, m⟩
theorem read_range (h : MailOk p lay mail) : ∀ a ∈ readIn p lay mail, 0 ≤ a ∧ a < p := fun a ha => by
  have hp := pr_pos h.pr
  unfold readIn at ha
  rw [readStep_cat] at ha
  rcases cat_mem _ _ ha with m | ⟨q, _, m⟩
  · cases m
  · exact through_range (by omega) _ a m
/-- the part of a place has the letters' signs as its values -/
theorem read_value (hl : LayOk lay) (h : MailOk p lay mail) (hu : unfitIn p lay mail = []) {i : Nat} {n : Int} (hn : (needsIn lay)[i]? = some n) (hc : n ≤ mail.length) {m : Int × List Int} (hm : m ∈ mail) : lawValue p (tAt p mail i n) (m.1 + 1) = m.2.getD i 0 := by
  have g := h.good hl i
  have hr := needsIn_range n (List.mem_of_getElem? hn)
  have hf := unfit_nil.mp hu i n hn
  have t := fits_thru g (by rw [ptsAt_len]; omega) hf
  have hq : (m.1 + 1, m.2.getD i 0) ∈ ptsAt mail i := List.mem_map.mpr ⟨m, hm, rfl⟩
  have hv := h.inr i (List.getElem?_eq_some_iff.mp hn).1 _ hq
  rw [lawValue_ev]
  have e : ev (tAt p mail i n) (m.1 + 1) % p = m.2.getD i 0 % p := t _ hq
  rw [e, Int.emod_eq_of_lt hv.1 hv.2]
/-- (C) what is read of more mail goes on from what was read -/
theorem read_grows {mail' : Mail} (hl : LayOk lay) (h : MailOk p lay mail) (h' : MailOk p lay mail') (s : mail.Sublist mail') (hu : unfitIn p lay mail = []) (hu' : unfitIn p lay mail' = []) : readIn p lay mail <+: readIn p lay mail' := by
  unfold readIn
  rw [readStep_cat, readStep_cat]
  have hlen := s.length_le
  refine cat_prefix (by omega) _ 0 [] (needsIn_sorted lay) fun i n hn hc => ?_
  rw [Nat.zero_add]
  have g := h.good hl i
  have g' := h'.good hl i
  have hr := needsIn_range n (List.mem_of_getElem? hn)
  have hp := pr_pos h.pr
  refine through_is g (by rw [ptsAt_len]; omega) ?_ ((fits_thru g' (by rw [ptsAt_len]; omega) (unfit_nil.mp hu' i n hn)).sub (s.map _)) (through_range (by omega) _)
  have := tAt_len hl h' (j := i) (n := n) (by omega) (by omega)
  show (tAt p mail' i n).length = n.toNat
  omega
end
end NLM
set_option maxHeartbeats 2000000
/-! The plain law: letters of a message. -/
namespace NLM
def blockStep (msg : List Int) (s : List (List Int) × Int) (n : Int) : List (List Int) × Int := (s.1 ++ [(msg.drop s.2.toNat).take n.toNat], s.2 + n)
def blocksOf (msg ns : List Int) : List (List Int) := (ns.foldl (blockStep msg) ([], 0)).1
def bl (msg : List Int) : Int → List Int → List (List Int)
  | _, [] => []
  | at_, n :: r => ((msg.drop at_.toNat).take n.toNat) :: bl msg (at_ + n) r
theorem blocks_fold (msg : List Int) : ∀ (l : List Int) (s : List (List Int) × Int), (l.foldl (blockStep msg) s).1 = s.1 ++ bl msg s.2 l
  | [], s => (List.append_nil s.1).symm
  | n :: r, s => by
    rw [List.foldl_cons, blocks_fold msg r]
    show (s.1 ++ [(msg.drop s.2.toNat).take n.toNat]) ++ bl msg (s.2 + n) r = _
    rw [List.append_assoc]
    rfl
theorem blocksOf_eq (msg ns : List Int) : blocksOf msg ns = bl msg 0 ns := blocks_fold msg ns ([], 0)
theorem bl_len (msg : List Int) : ∀ (l : List Int) (a : Int), (bl msg a l).length = l.length
  | [], _ => rfl
  | n :: r, a => by
    show (bl msg (a + n) r).length + 1 = _
    rw [bl_len msg r] <;> rfl
theorem bl_at {msg : List Int} : ∀ (l : List Int) (a : Int) (i : Nat) (n : Int), 0 ≤ a → (∀ x ∈ l, 0 ≤ x) → a + l.sum ≤ msg.length → l[i]? = some n → ∃ b, (bl msg a l)[i]? = some b ∧ b.length = n.toNat ∧ (∀ x ∈ b, x ∈ msg)
  | [], _, _, _, _, _, _, h => by simp at h
  | m :: r, a, 0, n, ha, hx, hs, h => by
    have e : m = n := Option.some.inj h
    subst e
    refine ⟨_, rfl, ?_, fun x hx => List.mem_of_mem_drop (List.mem_of_mem_take hx)⟩
    rw [List.length_take, List.length_drop]
    have h0 := hx m List.mem_cons_self
    have h1 : 0 ≤ r.sum := by
      clear hs h
      have : ∀ (t : List Int), (∀ x ∈ t, 0 ≤ x) → 0 ≤ t.sum := fun t => by
        induction t with
        | nil => exact fun _ => by rw [List.sum_nil]; omega
        | cons y t ih =>
          intro z
          have z1 := z y List.mem_cons_self
          have z2 := ih fun x h => z x (List.mem_cons_of_mem _ h)
          rw [List.sum_cons]
          omega
      exact this r fun x h => hx x (List.mem_cons_of_mem _ h)
    rw [List.sum_cons] at hs
    omega
  | m :: r, a, i + 1, n, ha, hx, hs, h => by
    have h0 := hx m List.mem_cons_self
    rw [List.sum_cons] at hs
    exact bl_at r (a + m) i n (by omega) (fun x h => hx x (List.mem_cons_of_mem _ h)) (by omega) h
def letterOf (p : Int) (lay msg : List Int) (i : Int) : List Int := (blocksOf msg (needsIn lay)).map fun b => lawValue p b (i + 1)
def lettersOf (p : Int) (lay msg : List Int) : List (List Int) := (List.range lay.length).map fun (i : Nat) => letterOf p lay msg i
structure MsgOk (p : Int) (lay msg : List Int) : Prop where
  len : (msg.length : Int) = (needsIn lay).sum
  rg : ∀ a ∈ msg, 0 ≤ a ∧ a < p
theorem sumLe_all {lay : List Int} : sumLe lay.length (needsIn lay) = (needsIn lay).sum := by
  unfold sumLe
  rw [List.filter_eq_self.mpr fun k hk => decide_eq_true (needsIn_range k hk).2]
section
variable {p : Int} {lay msg : List Int} {mail : Mail}
theorem needs_pos : ∀ x ∈ needsIn lay, 0 ≤ x := fun x hx => by
  have := needsIn_range x hx
  omega
theorem letter_len (i : Int) : (letterOf p lay msg i).length = (needsIn lay).length := by
  unfold letterOf
  rw [List.length_map, blocksOf_eq, bl_len]
theorem letters_at {i : Int} (h0 : 0 ≤ i) (h1 : i < lay.length) : (lettersOf p lay msg)[i.toNat]? = some (letterOf p lay msg i) := by
  unfold lettersOf
  rw [List.getElem?_map, List.getElem?_range (by omega)]
  show some (letterOf p lay msg ((i.toNat : Nat) : Int)) = some (letterOf p lay msg i)
  rw [Int.toNat_of_nonneg h0]
theorem letter_range (hp : 0 < p) (i : Int) : ∀ s ∈ letterOf p lay msg i, 0 ≤ s ∧ s < p := fun s hs => by
  unfold letterOf at hs
  obtain ⟨b, _, rfl⟩ := List.mem_map.mp hs
  exact ⟨Int.emod_nonneg _ (by omega), Int.emod_lt_of_pos _ hp⟩
/-- a place's block -/
theorem block_at (hm : MsgOk p lay msg) {j : Nat} {n : Int} (hn : (needsIn lay)[j]? = some n) : ∃ b, (bl msg 0 (needsIn lay))[j]? = some b ∧ b.length = n.toNat ∧ (∀ x ∈ b, 0 ≤ x ∧ x < p) ∧ ∀ i, (letterOf p lay msg i).getD j 0 = ev b (i + 1) % p := by
  obtain ⟨b, h1, h2, h3⟩ := bl_at (msg := msg) (needsIn lay) 0 j n (Int.le_refl _) needs_pos (by rw [hm.len]; omega) hn
  refine ⟨b, h1, h2, fun x hx => hm.rg x (h3 x hx), fun i => ?_⟩
  unfold letterOf
  rw [blocksOf_eq, List.getD_eq_getElem?_getD, List.getElem?_map, h1]
  show lawValue p b (i + 1) = _
  rw [lawValue_ev]
theorem true_thru {b : List Int} {j : Nat} (hb : ∀ i, (letterOf p lay msg i).getD j 0 = ev b (i + 1) % p) (ht : ∀ m ∈ mail, m.2 = letterOf p lay msg m.1) : Thru p b (ptsAt mail j) := fun q hq => by
  obtain ⟨m, hm, e⟩ := List.mem_map.mp hq
  rw [← e]
  show Cg p (ev b (m.1 + 1)) (m.2.getD j 0)
  rw [ht m hm, hb]
  exact (Cg.mod p _).symm
/-- (B) unaltered mail fits -/
theorem true_unfit (hl : LayOk lay) (h : MailOk p lay mail) (hm : MsgOk p lay msg) (ht : ∀ m ∈ mail, m.2 = letterOf p lay msg m.1) : unfitIn p lay mail = [] := by
  refine unfit_nil.mpr fun j n hn => ?_
  obtain ⟨b, h1, h2, h3, h4⟩ := block_at hm hn
  exact fits_of (h.good hl j) (h.inr j (List.getElem?_eq_some_iff.mp hn).1) h2 (true_thru h4 ht)
theorem cat_msg {c : Int} {T : Nat → Int → List Int} : ∀ (l : List Int) (s : Nat) (a : Int), 0 ≤ a → (∀ x ∈ l, 0 ≤ x) → l.Pairwise (· ≤ ·) → (∀ (i : Nat) (n : Int), l[i]? = some n → n ≤ c → (bl msg a l)[i]? = some (T (s + i) n)) → (l.zipIdx s).foldl (catStep c T) (msg.take a.toNat) = msg.take (a + sumLe c l).toNat
  | [], s, a, _, _, _, _ => by
    show msg.take a.toNat = msg.take (a + 0).toNat
    rw [Int.add_zero]
  | x :: l, s, a, ha, hx, hp, h => by
    have h1 := List.pairwise_cons.mp hp
    have h0 := hx x List.mem_cons_self
    by_cases hc : x ≤ c
    · rw [List.zipIdx_cons, List.foldl_cons]
      have e1 : catStep c T (msg.take a.toNat) (x, s) = msg.take a.toNat ++ T s x := if_pos hc
      have e2 : T s x = (msg.drop a.toNat).take x.toNat := (Option.some.inj (h 0 x rfl hc)).symm
      have e3 : msg.take a.toNat ++ (msg.drop a.toNat).take x.toNat = msg.take (a + x).toNat := by
        rw [show (a + x).toNat = a.toNat + x.toNat by omega, List.take_add]
      rw [e1, e2, e3, cat_msg l (s + 1) (a + x) (by omega) (fun y hy => hx y (List.mem_cons_of_mem _ hy)) h1.2 fun i n hn hc' => by
        rw [show s + 1 + i = s + (i + 1) by omega]
        exact h (i + 1) n hn hc']
      unfold sumLe
      rw [List.filter_cons_of_pos (p := fun k => decide (k ≤ c)) (decide_eq_true hc), List.sum_cons, Int.add_assoc]
    · have hn : ∀ n ∈ x :: l, c < n := fun n hn => by
        rcases List.mem_cons.mp hn with e | m
        · omega
        · have := h1.1 n m
          omega
      rw [cat_none hn, sumLe_none hn, Int.add_zero]
/-- unaltered mail reads as the message begins -/
theorem true_read (hl : LayOk lay) (h : MailOk p lay mail) (hm : MsgOk p lay msg) (ht : ∀ m ∈ mail, m.2 = letterOf p lay msg m.1) : readIn p lay mail = msg.take (readIn p lay mail).length := by
  have e : readIn p lay mail = msg.take (sumLe mail.length (needsIn lay)).toNat := by
    have z := cat_msg (msg := msg) (c := mail.length) (T := tAt p mail) (needsIn lay) 0 0 (Int.le_refl _) needs_pos (needsIn_sorted lay) fun i n hn hc => by
      obtain ⟨b, h1, h2, h3, h4⟩ := block_at hm hn
      rw [Nat.zero_add, h1]
      have := needsIn_range n (List.mem_of_getElem? hn)
      exact congrArg some (through_is (h.good hl i) (by rw [ptsAt_len]; omega) h2 (true_thru h4 ht) h3).symm
    rw [Int.zero_add] at z
    exact z
  have e2 := read_len hl h
  rw [stairIn_at (fun s hs => (hl.sh s hs).1) h.short] at e2
  have e3 := Option.some.inj e2
  rw [e3] at e
  exact e
/-! ### one altered -/
theorem asc_uniq : ∀ {l : Mail} {a b : Int × List Int}, l.Pairwise (fun a b => a.1 < b.1) → a ∈ l → b ∈ l → a.1 = b.1 → a = b
  | [], _, _, _, h, _, _ => by cases h
  | x :: r, a, b, hp, ha, hb, e => by
    have h1 := List.pairwise_cons.mp hp
    rcases List.mem_cons.mp ha with ea | ma
    · rcases List.mem_cons.mp hb with eb | mb
      · rw [ea, eb]
      · have := h1.1 b mb
        rw [ea] at e
        omega
    · rcases List.mem_cons.mp hb with eb | mb
      · have := h1.1 a ma
        rw [eb] at e
        omega
      · exact asc_uniq h1.2 ma mb e
theorem without_len : ∀ {l : Mail} {a : Int × List Int}, l.Pairwise (fun a b => a.1 < b.1) → a ∈ l → (without l a.1).length + 1 = l.length
  | [], _, _, h => by cases h
  | x :: r, a, hp, ha => by
    have h1 := List.pairwise_cons.mp hp
    unfold without
    by_cases e : x.1 = a.1
    · rw [List.filter_cons_of_neg (by rw [decide_eq_true e]; exact Bool.false_ne_true)]
      rw [List.filter_eq_self.mpr fun y hy => by
        have := h1.1 y hy
        rw [decide_eq_false (by omega)]
        rfl]
      rfl
    · rw [List.filter_cons_of_pos (by rw [decide_eq_false e]; rfl)]
      have ha' : a ∈ r := by
        rcases List.mem_cons.mp ha with rfl | h
        · exact absurd rfl e
        · exact h
      have ih := without_len h1.2 ha'
      unfold without at ih
      rw [List.length_cons, List.length_cons, ih]
theorem without_mem {l : Mail} {n : Int} {m : Int × List Int} : m ∈ without l n ↔ m ∈ l ∧ m.1 ≠ n := by
  unfold without
  rw [List.mem_filter]
  constructor
  · rintro ⟨h1, h2⟩
    refine ⟨h1, fun e => ?_⟩
    rw [decide_eq_true e] at h2
    cases h2
  · rintro ⟨h1, h2⟩
    exact ⟨h1, by rw [decide_eq_false h2]; rfl⟩
theorem filter_one {P : Int × List Int → Bool} : ∀ {l : Mail} {a : Int × List Int}, l.Pairwise (fun a b => a.1 < b.1) → a ∈ l → (∀ m ∈ l, P m = true ↔ m = a) → l.filter P = [a]
  | [], _, _, h, _ => by cases h
  | x :: r, a, hp, ha, hP => by
    have h1 := List.pairwise_cons.mp hp
    by_cases e : x = a
    · subst e
      rw [List.filter_cons_of_pos ((hP x List.mem_cons_self).mpr rfl)]
      rw [List.filter_eq_nil_iff.mpr fun y hy h => by
        have e := (hP y (List.mem_cons_of_mem _ hy)).mp h
        have := h1.1 y hy
        rw [e] at this
        omega]
    · rw [List.filter_cons_of_neg (fun h => e ((hP x List.mem_cons_self).mp h))]
      exact filter_one h1.2 ((List.mem_cons.mp ha).resolve_left fun z => e z.symm) fun m hm => hP m (List.mem_cons_of_mem _ hm)
def wrongIn (p : Int) (lay msg : List Int) (mail : Mail) : Mail := mail.filter fun m => !decide (m.2 = letterOf p lay msg m.1)
/-- (D) -/
theorem one_found (hl : LayOk lay) (h : MailOk p lay mail) (hm : MsgOk p lay msg) {m0 : Int × List Int} (hw : wrongIn p lay msg mail = [m0]) {j : Nat} {n : Int} (hn : (needsIn lay)[j]? = some n) (hne : m0.2.getD j 0 ≠ (letterOf p lay msg m0.1).getD j 0) (hlen : n + 2 ≤ mail.length) : suspectsIn p lay mail = [m0.1] := by
  have hm0 : m0 ∈ mail := by
    have : m0 ∈ wrongIn p lay msg mail := by rw [hw]; exact List.mem_singleton.mpr rfl
    unfold wrongIn at this
    exact (List.mem_filter.mp this).1
  have true_of : ∀ m ∈ mail, m ≠ m0 → m.2 = letterOf p lay msg m.1 := fun m hmem hne => by
    by_cases e : m.2 = letterOf p lay msg m.1
    · exact e
    · have z : m ∈ wrongIn p lay msg mail := by
        unfold wrongIn
        exact List.mem_filter.mpr ⟨hmem, by rw [decide_eq_false e]; rfl⟩
      rw [hw] at z
      exact absurd (List.mem_singleton.mp z) hne
  obtain ⟨b0, h1, h2, h3, h4⟩ := block_at hm hn
  have hr := needsIn_range n (List.mem_of_getElem? hn)
  have hj : j < (needsIn lay).length := (List.getElem?_eq_some_iff.mp hn).1
  have hp := pr_pos h.pr
  have key : ∀ sub : Mail, sub.Sublist mail → m0 ∈ sub → n + 1 ≤ sub.length → unfitIn p lay sub ≠ [] := fun sub hs hin hlen' hu => by
    have hS := h.sub hs
    have g := hS.good hl j
    have t := fits_thru g (by rw [ptsAt_len]; omega) (unfit_nil.mp hu j n hn)
    have sw : (without sub m0.1).Sublist sub := List.filter_sublist
    have hW := hS.sub sw
    have gW := hW.good hl j
    have hlW := without_len hS.asc hin
    have tW := t.sub (sw.map fun m => (m.1 + 1, m.2.getD j 0))
    have tB : Thru p b0 (ptsAt (without sub m0.1) j) := true_thru h4 fun m hmw => by
      obtain ⟨z1, z2⟩ := without_mem.mp hmw
      exact true_of m (hs.subset z1) fun e => z2 (by rw [e])
    have lt : (throughIn p ((ptsAt sub j).take n.toNat)).length = n.toNat := by
      have := tAt_len hl hS (j := j) (n := n) (by omega) (by omega)
      unfold tAt at this
      omega
    have c := thru_ev gW (by rw [lt, h2]) (by rw [lt, ptsAt_len]; omega) tW tB (m0.1 + 1)
    have q := t (m0.1 + 1, m0.2.getD j 0) (List.mem_map.mpr ⟨m0, hin, rfl⟩)
    have c2 : Cg p (m0.2.getD j 0) (ev b0 (m0.1 + 1)) := q.symm.trans c
    have r0 := hS.inr j hj (m0.1 + 1, m0.2.getD j 0) (List.mem_map.mpr ⟨m0, hin, rfl⟩)
    apply hne
    rw [h4]
    have e : m0.2.getD j 0 % p = ev b0 (m0.1 + 1) % p := c2
    rw [← e, Int.emod_eq_of_lt r0.1 r0.2]
  unfold suspectsIn
  rw [if_neg (key mail (List.Sublist.refl _) hm0 (by omega)), filter_one (a := m0) h.asc hm0 fun m hmem => ?_]
  · rfl
  · rw [decide_eq_true_eq]
    constructor
    · intro hu
      by_cases e : m.1 = m0.1
      · exact asc_uniq h.asc hmem hm0 e
      · refine absurd hu (key (without mail m.1) List.filter_sublist (without_mem.mpr ⟨hm0, fun z => e z.symm⟩) ?_)
        have := without_len h.asc hmem
        omega
    · rintro rfl
      refine true_unfit hl (h.sub List.filter_sublist) hm fun y hy => ?_
      obtain ⟨z1, z2⟩ := without_mem.mp hy
      exact true_of y z1 fun e => z2 (by rw [e])
end
end NLM
set_option maxHeartbeats 2000000
/-! Defs of the law over data. -/
namespace NL
open PySem PySem.Spec PyProof.Rows L2 StX
def mixedV (c k : Int) : Int := (((c % 2147483647) * (48271 + 2 * k * k) + 69621 * k + 11) % 2147483647 * 69621) % 2147483629
theorem mixedV_range (c k : Int) : 0 ≤ mixedV c k ∧ mixedV c k < 2147483629 := ⟨Int.emod_nonneg _ (by omega), Int.emod_lt_of_pos _ (by omega)⟩
section
variable {P : Program} {w : World} {K : PySem.W.Frag} {mg : Str → Option Value} {base : Heap} {C f : Addr} {fd : FuncData}
def R_mixed (ks : List SK) (d : PyData) : Prop := ∃ c k : Int, 0 ≤ k ∧ k < 2 ^ 40 ∧ ks = [.dat (.int c), .dat (.int k)] ∧ d = .int (mixedV c k)
theorem sc_mixed : FnScope ["_law_cell", "_law_k"] ["_law_cell", "_law_k"] (defScope sMixed) := ⟨rfl, rfl, rfl, by decide +kernel, rfl, by decide +kernel, by decide +kernel⟩
theorem ok_mixed (T : Free mg) (F : FnP K "_law_mixed" "_law_mixed" sMixed [] f fd) (hm : mg "_law_mixed" = some (.ref f)) : CalD P w K mg base C 1 "_law_mixed" R_mixed := by
  refine cal_sd F hm sc_mixed (fun _ _ _ _ _ _ us hl => match us, hl with | [_, _], _ => rfl) (fun ks d ⟨_, _, _, _, h, _⟩ => by rw [h] <;> rfl) fun cdv A outer s H E ks d hr ⟨c, k, h0, h1, hks, hd⟩ => ?_
  subst hks hd
  have c0 := Int.emod_nonneg c (show (2147483647 : Int) ≠ 0 by omega)
  have c1 := Int.emod_lt_of_pos c (show (0 : Int) < 2147483647 by omega)
  refine sd_seq (sd_set 0 sc_mixed.nd (pd_mod (pd_intC T.int (pd_var 0 rfl)) pd_int (by omega))) ?_
  exact sd_last (sd_ret (pd_mod (pd_mul (pd_mod (pd_add (pd_add (pd_mul (pd_var 0 rfl) (pd_add pd_int (pd_mul (pd_mul pd_int (pd_var 1 rfl) (cmul_l (by omega))) (pd_var 1 rfl) (cmul_r (by omega)))) (cmul_l (by omega))) (pd_mul pd_int (pd_var 1 rfl) (cmul_l (by omega)))) pd_int) pd_int (by omega)) pd_int (cmul_r (by omega))) pd_int (by omega)) rfl)
def R_back (ks : List SK) (d : PyData) : Prop := R_inverse_in ks d
theorem sc_back : FnScope ["_law_prime_so", "_law_sign", "_law_one"] ["_law_prime_so", "_law_sign"] (defScope sBack) := ⟨rfl, rfl, rfl, by decide +kernel, rfl, by decide +kernel, by decide +kernel⟩
theorem ok_back (T : Free mg) (F : FnP K "_law_back" "_law_back" sBack [] f fd) (hm : mg "_law_back" = some (.ref f)) : CalD P w K mg base C 1 "_law_back" R_back := by
  refine cal_sd F hm sc_back (fun _ _ _ _ _ _ us hl => match us, hl with | [_, _], _ => rfl) (fun ks d ⟨_, _, _, _, h, _⟩ => by rw [h] <;> rfl) fun cdv A outer s H E ks d hr ⟨p, x, hp, hne, hks, hd⟩ => ?_
  subst hks hd
  have hpb := NLM.pr_pos hp
  refine sd_last (sd_ret (pd_ixL (pd_lcT (own := [("_law_one", 2)]) (pt := .nm 2) ((List.range (p - 1).toNat).map fun (i : Nat) => 1 + (i : Int)) .int (fun o => decide ((o * x) % p = 1)) .int (gb := fun i => [.dat (.int p), .dat (.int x), .dat (.int i)]) rfl sc_back.nd (di_is (di_rng2 T.range pd_int (pd_var 0 rfl) (by omega)) (rngD_map _ _)) (blkOk_by rfl) (fun _ _ _ _ _ => pg_nm 2 sc_back.nd) (lt_size (by rw [List.length_map, List.length_range]; omega)) ins1 (fun o ho => .nm)
    (fun o ho s H C' cl fp => pts_one (pt_eqI (pd_mod (pd_intC T.int (pd_mul (pd_var 2 rfl) (pd_var 1 rfl) (cmul_l (by have := rng_mem ho; omega)))) (pd_var 0 rfl) (by omega)) pd_int))
    (fun o ho hb s H C' cl fp => pd_var 2 rfl)) pd_int (at0_ints hne)) rfl)
def SmallI (ns : List Int) : Prop := ∀ o ∈ ns, -1000 ≤ o ∧ o ≤ 1000
def R_value (ks : List SK) (d : PyData) : Prop := ∃ (p : Int) (ns : List Int) (x : Int), p ∈ NLM.PR ∧ SmallI ns ∧ -1000 ≤ x ∧ x ≤ 1000 ∧ ks = [.dat (.int p), .dat (dI ns), .dat (.int x)] ∧ d = .int (NLM.lawValue p ns x)
theorem sc_value : FnScope ["_law_prime_so", "_law_block", "_law_sign", "_law_got", "_law_power", "_law_one"] ["_law_prime_so", "_law_block", "_law_sign"] (defScope sValue) := ⟨rfl, rfl, rfl, by decide +kernel, rfl, by decide +kernel, by decide +kernel⟩
theorem ok_value (T : Free mg) (F : FnP K "_law_value" "_law_value" sValue [] f fd) (hm : mg "_law_value" = some (.ref f)) : CalD P w K mg base C 1 "_law_value" R_value := by
  refine cal_sd F hm sc_value (fun _ _ _ _ _ _ us hl => match us, hl with | [_, _, _], _ => rfl) (fun ks d ⟨_, _, _, _, _, _, _, h, _⟩ => by rw [h] <;> rfl) fun cdv A outer s H E ks d hr ⟨p, ns, x, hp, hns, hx1, hx2, hks, hd⟩ => ?_
  subst hks hd
  have hpb := NLM.pr_pos hp
  refine sd_seq (sd_asg (pt := .pr 3 4) (pd_tup (ds_cons pd_int (ds_cons pd_int ds_nil)) (by show 2 ≤ sizeLine; decide)) (pg_pr 3 4 rfl sc_value.nd) .pr) ?_
  refine sd_cons (sd_for (fun i G => ∃ k, G = [.dat (.int p), .dat (dI ns), .dat (.int x), .dat (.int (NLM.lawPow x (ns.take i) (0, 1)).1), .dat (.int (NLM.lawPow x (ns.take i) (0, 1)).2), k]) rfl (di_tup (pd_var 1 rfl)) (pg_nm 5 sc_value.nd) ⟨.un, rfl⟩ ?_ fun G' h => h) ?_
  · rintro i d Gi hd ⟨k, rfl⟩
    obtain ⟨o, ho, rfl⟩ := map_at hd
    have hs := hns o (List.mem_of_getElem? ho)
    refine ⟨_, .nm, sd_seq (sd_par' 3 4 rfl sc_value.nd (pd_add (pd_var 3 rfl) (pd_mul (pd_var 5 rfl) (pd_var 4 rfl) (cmul_l (by omega)))) (pd_mul (pd_var 4 rfl) (pd_var 2 rfl) (cmul_r (by omega)))) (sd_end ⟨.dat (.int o), ?_⟩ (Weak.refl _))⟩
    unfold NLM.lawPow
    rw [fold_take ho]
    rfl
  · rintro G1 ⟨k, rfl⟩
    rw [map_len, List.take_length]
    exact sd_last (sd_ret (pd_mod (pd_intC T.int (pd_var 3 rfl)) (pd_var 0 rfl) (by omega)) rfl)
def R_between (ks : List SK) (d : PyData) : Prop := ∃ (p : Int) (pts : NLM.Pts) (x : Int), NLM.Good p pts ∧ 1 ≤ x ∧ x ≤ 8 ∧ ks = [.dat (.int p), .dat (.list (pts.map encP)), .dat (.int x)] ∧ d = .int (NLM.lawBetween p pts x)
theorem sc_between : FnScope ["_law_prime_so", "_law_points", "_law_sign", "_law_got", "_law_one", "_law_height", "_law_top", "_law_bottom", "_law_far", "_law_rest"] ["_law_prime_so", "_law_points", "_law_sign"] (defScope sBetween) := ⟨rfl, rfl, rfl, by decide +kernel, rfl, by decide +kernel, by decide +kernel⟩
theorem ok_between (T : Free mg) (cb : CalD P w K mg base C 1 "_law_back" R_back) (F : FnP K "_law_between" "_law_between" sBetween [] f fd) (hm : mg "_law_between" = some (.ref f)) : CalD P w K mg base C 2 "_law_between" R_between := by
  refine cal_sd F hm sc_between (fun _ _ _ _ _ _ us hl => match us, hl with | [_, _, _], _ => rfl) (fun ks d ⟨_, _, _, _, _, _, h, _⟩ => by rw [h] <;> rfl) fun cdv A outer s H E ks d hr ⟨p, pts, x, g, hx1, hx2, hks, hd⟩ => ?_
  subst hks hd
  have hpb := NLM.pr_pos g.pr
  refine sd_seq (sd_set 3 sc_between.nd pd_int) ?_
  refine sd_cons (sd_for (fun i G => ∃ k4 k5 k6 k7 k8 k9, G = [.dat (.int p), .dat (.list (pts.map encP)), .dat (.int x), .dat (.int ((pts.take i).foldl (fun g q => g + NLM.lawTerm p pts x q) 0)), k4, k5, k6, k7, k8, k9]) rfl (di_list (pd_var 1 rfl)) (pg_pr 4 5 rfl sc_between.nd) ⟨.un, .un, .un, .un, .un, .un, rfl⟩ ?_ fun G' h => h) ?_
  · rintro i d Gi hd ⟨k4, k5, k6, k7, k8, k9, rfl⟩
    obtain ⟨⟨one, height⟩, hq, rfl⟩ := map_at hd
    have hmem : (one, height) ∈ pts := List.mem_of_getElem? hq
    have hlo := g.lo _ hmem
    refine ⟨_, .pr, ?_⟩
    refine sd_seq (sd_par' 6 7 rfl sc_between.nd (pd_var 5 rfl) pd_int) ?_
    refine sd_cons (sd_for (fun j G => ∃ k8 k9, G = [.dat (.int p), .dat (.list (pts.map encP)), .dat (.int x), .dat (.int ((pts.take i).foldl (fun g q => g + NLM.lawTerm p pts x q) 0)), .dat (.int one), .dat (.int height), .dat (.int ((pts.take j).foldl (NLM.lstep x one) (height, 1)).1), .dat (.int ((pts.take j).foldl (NLM.lstep x one) (height, 1)).2), k8, k9]) rfl (di_list (pd_var 1 rfl)) (pg_pr 8 9 rfl sc_between.nd) ⟨k8, k9, rfl⟩ ?_ fun G' h => h) ?_
    · rintro j d Gj hd ⟨k8, k9, rfl⟩
      obtain ⟨⟨far, rest⟩, hz, rfl⟩ := map_at hd
      have hlo2 := g.lo _ (List.mem_of_getElem? hz)
      refine ⟨_, .pr, sd_last (sd_if (pt_neI (pd_var 8 rfl) (pd_var 4 rfl)) (fun hne => ?_) fun heq => ?_)⟩
      · have ne : far ≠ one := fun e => by
          rw [decide_eq_true e] at hne
          cases hne
        refine sd_seq (sd_par' 6 7 rfl sc_between.nd (pd_mul (pd_var 6 rfl) (pd_sub (pd_var 2 rfl) (pd_var 8 rfl)) (cmul_r (by omega))) (pd_mul (pd_var 7 rfl) (pd_sub (pd_var 4 rfl) (pd_var 8 rfl)) (cmul_r (by omega)))) (sd_end ⟨.dat (.int far), .dat (.int rest), ?_⟩ (Weak.refl _))
        rw [fold_take hz]
        have e : NLM.lstep x one ((pts.take j).foldl (NLM.lstep x one) (height, 1)) (far, rest) = (((pts.take j).foldl (NLM.lstep x one) (height, 1)).1 * (x - far), ((pts.take j).foldl (NLM.lstep x one) (height, 1)).2 * (one - far)) := if_pos ne
        rw [e]
        rfl
      · have eq : far = one := by
          by_cases h : far = one
          · exact h
          · rw [decide_eq_false h] at heq
            cases heq
        refine sd_end ⟨.dat (.int far), .dat (.int rest), ?_⟩ (Weak.refl _)
        rw [fold_take hz]
        have e : NLM.lstep x one ((pts.take j).foldl (NLM.lstep x one) (height, 1)) (far, rest) = (pts.take j).foldl (NLM.lstep x one) (height, 1) := if_neg (fun h => h eq)
        rw [e]
        rfl
    · rintro G1 ⟨k8, k9, rfl⟩
      rw [map_len, fold_all]
      have hinv := NLM.law_inv g x hmem
      have hib := NLM.inverseIn_spec hinv
      refine sd_seq (sd_set 3 sc_between.nd (pd_add (pd_var 3 rfl) (pd_mul (pd_var 6 rfl) (pd_call cb hr (da_cons (pd_var 0 rfl) (da_cons (pd_mod (pd_intC T.int (pd_var 7 rfl)) (pd_var 0 rfl) (by omega)) da_nil)) ⟨p, _, g.pr, hinv, rfl, rfl⟩) (cmul_r (by omega))))) (sd_end ⟨.dat (.int one), .dat (.int height), .dat (.int (pts.foldl (NLM.lstep x one) (height, 1)).1), .dat (.int (pts.foldl (NLM.lstep x one) (height, 1)).2), k8, k9, ?_⟩ (Weak.refl _))
      rw [fold_take hq]
      rfl
  · rintro G1 ⟨k4, k5, k6, k7, k8, k9, rfl⟩
    rw [map_len, fold_all]
    exact sd_last (sd_ret (pd_mod (pd_intC T.int (pd_var 3 rfl)) (pd_var 0 rfl) (by omega)) rfl)
def R_needs (ks : List SK) (d : PyData) : Prop := R_needs_in ks d
theorem sc_needs : FnScope ["_law_shares_here", "_law_got", "_law_spot", "_law_share"] ["_law_shares_here"] (defScope sNeeds) := ⟨rfl, rfl, rfl, by decide +kernel, rfl, by decide +kernel, by decide +kernel⟩
theorem ok_needs (T : Free mg) (F : FnP K "_law_needs" "_law_needs" sNeeds [] f fd) (hm : mg "_law_needs" = some (.ref f)) : CalD P w K mg base C 1 "_law_needs" R_needs := by
  refine cal_sd F hm sc_needs (fun _ _ _ _ _ _ us hl => match us, hl with | [_], _ => rfl) (fun ks d ⟨_, _, h, _⟩ => by rw [h] <;> rfl) fun cdv A outer s H E ks d hr ⟨lay, hl, hks, hd⟩ => ?_
  subst hks hd
  refine sd_seq (sd_set 1 sc_needs.nd (pd_lst ds_nil (Nat.zero_le _))) ?_
  refine sd_cons (sd_for (fun i G => ∃ k1 k2, G = [.dat (dI lay), .dat (dL ((lay.zipIdx.take i).foldl (fun f (q : Int × Nat) => f ++ List.replicate q.1.toNat ((q.2 : Int) + 1)) [])), k1, k2]) rfl (di_is (di_enumT T.enumerate (pd_var 0 rfl)) (enum_ints lay)) (pg_pr 2 3 rfl sc_needs.nd) ⟨.un, .un, rfl⟩ ?_ fun G' h => h) ?_
  · rintro i d Gi hd ⟨k1, k2, rfl⟩
    obtain ⟨⟨o, j⟩, ho, rfl⟩ := map_at hd
    obtain ⟨rfl, hbo⟩ := zipIdx_at ho
    have hsh := hl.sh o (List.mem_of_getElem? hbo)
    have hj : j < lay.length := (List.getElem?_eq_some_iff.mp hbo).1
    have h8 := hl.l8
    have hlen := needs_step_len hl j
    refine ⟨_, .pr, sd_seq (sd_set 1 sc_needs.nd (pd_catL (pd_var 1 rfl) (pd_rep (pd_add (pd_var 2 rfl) pd_int) (pd_var 3 rfl) hsh.1 (by omega)) (Nat.le_of_lt (lt_size (by rw [List.length_map, List.length_replicate]; omega))))) (sd_end ⟨.dat (.int (j : Int)), .dat (.int o), ?_⟩ (Weak.refl _))⟩
    rw [fold_take ho]
    show [SK.dat (dI lay), _, _, _] = [SK.dat (dI lay), .dat (.list ((_ ++ List.replicate o.toNat ((j : Int) + 1)).map PyData.int)), _, _]
    rw [List.map_append, List.map_replicate]
  · rintro G1 ⟨k1, k2, rfl⟩
    refine sd_last (sd_ret (pd_var 1 rfl) ?_)
    rw [show (lay.zipIdx.map encI).length = lay.zipIdx.length from List.length_map .., fold_all]
    rfl
def R_stair (ks : List SK) (d : PyData) : Prop := ∃ lay : List Int, NLM.LayOk lay ∧ ks = [.dat (dI lay)] ∧ d = dI (NLM.stairIn lay)
theorem sc_stair : FnScope ["_law_shares_here", "_law_got", "_law_last", "_law_spot", "_law_share"] ["_law_shares_here"] (defScope sStair) := ⟨rfl, rfl, rfl, by decide +kernel, rfl, by decide +kernel, by decide +kernel⟩
theorem ok_stair (T : Free mg) (F : FnP K "_law_stair" "_law_stair" sStair [] f fd) (hm : mg "_law_stair" = some (.ref f)) : CalD P w K mg base C 1 "_law_stair" R_stair := by
  refine cal_sd F hm sc_stair (fun _ _ _ _ _ _ us hl => match us, hl with | [_], _ => rfl) (fun ks d ⟨_, _, h, _⟩ => by rw [h] <;> rfl) fun cdv A outer s H E ks d hr ⟨lay, hl, hks, hd⟩ => ?_
  subst hks hd
  refine sd_seq (sd_parL' 1 2 rfl sc_stair.nd pd_int) ?_
  refine sd_cons (sd_for (fun i G => ∃ k1 k2, G = [.dat (dI lay), .mls (((lay.zipIdx.take i).foldl NLM.stairStep ([], 0)).1.map .int), .dat (.int ((lay.zipIdx.take i).foldl NLM.stairStep ([], 0)).2), k1, k2]) rfl (di_is (di_enumT T.enumerate (pd_var 0 rfl)) (enum_ints lay)) (pg_pr 3 4 rfl sc_stair.nd) ⟨.un, .un, rfl⟩ ?_ fun G' h => h) ?_
  · rintro i d Gi hd ⟨k1, k2, rfl⟩
    obtain ⟨⟨o, j⟩, ho, rfl⟩ := map_at hd
    obtain ⟨rfl, hbo⟩ := zipIdx_at ho
    have hsh := hl.sh o (List.mem_of_getElem? hbo)
    have hlen := stair_fold_len (lay.zipIdx.take j) ([], 0)
    rw [List.length_take, List.length_zipIdx, List.length_nil] at hlen
    have h8 := hl.l8
    refine ⟨_, .pr, sd_seq (sd_set 2 sc_stair.nd (pd_add (pd_var 2 rfl) (pd_mul (pd_add (pd_var 3 rfl) pd_int) (pd_var 4 rfl) (cmul_r (by omega))))) (sd_seq (sd_app' 1 rfl (pd_var 2 rfl) (lt_size (by rw [List.length_map]; omega))) (sd_end ⟨.dat (.int (j : Int)), .dat (.int o), ?_⟩ (Weak.refl _)))⟩
    rw [fold_take ho]
    show [SK.dat (dI lay), _, _, _, _] = [SK.dat (dI lay), .mls ((((lay.zipIdx.take j).foldl NLM.stairStep ([], 0)).1 ++ [((lay.zipIdx.take j).foldl NLM.stairStep ([], 0)).2 + ((j : Int) + 1) * o]).map PyData.int), _, _, _]
    rw [List.map_append]
    rfl
  · rintro G1 ⟨k1, k2, rfl⟩
    refine sd_freeze 1 rfl (sd_last (sd_ret (pd_tupleL T.tuple (pd_var 1 rfl)) ?_))
    rw [show (lay.zipIdx.map encI).length = lay.zipIdx.length from List.length_map .., fold_all]
    rfl
end
end NL
set_option maxHeartbeats 2000000
/-! Defs of the law over data: letters, what does not fit, suspects, what is read. -/
namespace NL
open PySem PySem.Spec PyProof.Rows L2 StX
def dML (mail : NLM.Mail) : PyData := .list (mail.map encM)
theorem cutD_len {ds : List PyData} {a n : Int} (ha : 0 ≤ a) (hn : 0 ≤ n) : cutD ds (some a) (some (a + n)) = (ds.drop a.toNat).take n.toNat := by
  have e1 : a = ((a.toNat : Nat) : Int) := by omega
  have e2 : a + n = (((a + n).toNat : Nat) : Int) := by omega
  rw [e2, e1, cutD_mid]
  congr 1
  omega
theorem cut_ints {ns : List Int} {a n : Int} (ha : 0 ≤ a) (hn : 0 ≤ n) : cutD (ns.map PyData.int) (some a) (some (a + n)) = ((ns.drop a.toNat).take n.toNat).map PyData.int := by
  rw [cutD_len ha hn, ← List.map_drop, ← List.map_take]
theorem bs_inv (msg : List Int) : ∀ (l : List Int) (s : List (List Int) × Int), (∀ x ∈ l, 0 ≤ x) → 0 ≤ s.2 → 0 ≤ (l.foldl (NLM.blockStep msg) s).2 ∧ (l.foldl (NLM.blockStep msg) s).1.length = s.1.length + l.length
  | [], s, _, h => ⟨h, rfl⟩
  | x :: l, s, hx, h => by
    rw [List.foldl_cons]
    have h0 := hx x List.mem_cons_self
    obtain ⟨a, b⟩ := bs_inv msg l (NLM.blockStep msg s x) (fun y hy => hx y (List.mem_cons_of_mem _ hy)) (by show 0 ≤ s.2 + x; omega)
    refine ⟨a, ?_⟩
    rw [b]
    show (s.1 ++ [_]).length + l.length = _
    rw [List.length_append, List.length_singleton, List.length_cons]
    omega
theorem bl_small {msg : List Int} (h : SmallI msg) : ∀ (l : List Int) (a : Int), ∀ b ∈ NLM.bl msg a l, SmallI b
  | [], _, _, hb => by cases hb
  | n :: r, a, b, hb => by
    rcases List.mem_cons.mp hb with e | m
    · subst e
      exact fun o ho => h o (List.mem_of_mem_drop (List.mem_of_mem_take ho))
    · exact bl_small h r (a + n) b m
section
variable {P : Program} {w : World} {K : PySem.W.Frag} {mg : Str → Option Value} {base : Heap} {C f : Addr} {fd : FuncData}
def dLet (p : Int) (lay msg : List Int) : PyData := .tuple ((NLM.lettersOf p lay msg).map dI)
def R_letters (ks : List SK) (d : PyData) : Prop := ∃ (p : Int) (lay msg : List Int), p ∈ NLM.PR ∧ NLM.LayOk lay ∧ SmallI msg ∧ ks = [.dat (.int p), .dat (dI lay), .dat (dI msg)] ∧ d = dLet p lay msg
theorem sc_letters : FnScope ["_law_prime_so", "_law_shares_here", "_law_message_so", "_law_blocks", "_law_at", "_law_need", "_law_got", "_law_spot", "_law_block"] ["_law_prime_so", "_law_shares_here", "_law_message_so"] (defScope sLetters) := ⟨rfl, rfl, rfl, by decide +kernel, rfl, by decide +kernel, by decide +kernel⟩
theorem ok_letters (T : Free mg) (cn : CalD P w K mg base C 1 "_law_needs" R_needs) (cv : CalD P w K mg base C 1 "_law_value" R_value) (F : FnP K "_law_letters" "_law_letters" sLetters [] f fd) (hm : mg "_law_letters" = some (.ref f)) : CalD P w K mg base C 2 "_law_letters" R_letters := by
  refine cal_sd F hm sc_letters (fun _ _ _ _ _ _ us hl => match us, hl with | [_, _, _], _ => rfl) (fun ks d ⟨_, _, _, _, _, _, h, _⟩ => by rw [h] <;> rfl) fun cdv A outer s H E ks d hr ⟨p, lay, msg, hp, hl, hsm, hks, hd⟩ => ?_
  subst hks hd
  have h8 := hl.l8
  have h12 := NLM.needs_len12 hl
  refine sd_seq (sd_parL' 3 4 rfl sc_letters.nd pd_int) ?_
  refine sd_cons (sd_for (fun i G => ∃ k, G = [.dat (.int p), .dat (dI lay), .dat (dI msg), .mls ((((NLM.needsIn lay).take i).foldl (NLM.blockStep msg) ([], 0)).1.map dI), .dat (.int (((NLM.needsIn lay).take i).foldl (NLM.blockStep msg) ([], 0)).2), k, .un, .un, .un]) rfl (di_list (pd_call cn hr (da_cons (pd_var 1 rfl) da_nil) ⟨lay, hl, rfl, rfl⟩)) (pg_nm 5 sc_letters.nd) ⟨.un, rfl⟩ ?_ fun G' h => h) ?_
  · rintro i d Gi hd ⟨k, rfl⟩
    obtain ⟨n, ho, rfl⟩ := map_at hd
    have hi : i < (NLM.needsIn lay).length := (List.getElem?_eq_some_iff.mp ho).1
    have h0 := NLM.needs_pos n (List.mem_of_getElem? ho)
    obtain ⟨ha, hb⟩ := bs_inv msg ((NLM.needsIn lay).take i) ([], 0) (fun x hx => NLM.needs_pos x (List.mem_of_mem_take hx)) (Int.le_refl _)
    rw [List.length_take, List.length_nil] at hb
    refine ⟨_, .nm, sd_seq (sd_app' 3 rfl (pd_slT (pd_var 2 rfl) (do_some (pd_var 4 rfl)) (do_some (pd_add (pd_var 4 rfl) (pd_var 5 rfl)))) (lt_size (by rw [map_len]; omega))) (sd_seq (sd_set 4 sc_letters.nd (pd_add (pd_var 4 rfl) (pd_var 5 rfl))) (sd_end ⟨.dat (.int n), ?_⟩ (Weak.refl _)))⟩
    rw [fold_take ho, cut_ints ha h0]
    show [_, _, _, _, _, _, _, _, _] = [_, _, _, SK.mls (((((NLM.needsIn lay).take i).foldl (NLM.blockStep msg) ([], 0)).1 ++ [(msg.drop (((NLM.needsIn lay).take i).foldl (NLM.blockStep msg) ([], 0)).2.toNat).take n.toNat]).map dI), _, _, _, _, _]
    rw [List.map_append]
    rfl
  · rintro G1 ⟨k, rfl⟩
    rw [map_len, List.take_length]
    refine sd_freeze 3 rfl (sd_seq (sd_newL 6 sc_letters.nd) ?_)
    refine sd_cons (sd_for (ds := rngD 0 lay.length) (fun i G => ∃ k7, G = [.dat (.int p), .dat (dI lay), .dat (dI msg), .dat (.list ((NLM.blocksOf msg (NLM.needsIn lay)).map dI)), .dat (.int ((NLM.needsIn lay).foldl (NLM.blockStep msg) ([], 0)).2), k, .mls ((List.range i).map fun (i : Nat) => dI (NLM.letterOf p lay msg i)), k7, .un]) rfl (di_is (di_rng1 T.range (pd_lenT T.len (pd_var 1 rfl)) (by rw [map_len]; omega)) (by rw [map_len]; rfl)) (pg_nm 7 sc_letters.nd) ⟨.un, rfl⟩ ?_ fun G' h => h) ?_
    · rintro i d Gi hd ⟨k7, rfl⟩
      rw [rngD_map] at hd
      obtain ⟨z, hz, rfl⟩ := map_at hd
      obtain ⟨i', hi', rfl⟩ := map_at hz
      have hi := (List.getElem?_eq_some_iff.mp hi').1
      rw [List.length_range] at hi
      rw [List.getElem?_range hi] at hi'
      have e : i = i' := Option.some.inj hi'
      subst e
      refine ⟨_, .nm, sd_seq (sd_app' 6 rfl (d := dI (NLM.letterOf p lay msg i))
        (pd_is (pd_tupleL T.tuple (pd_lc0 (own := [("_law_block", 8)]) (pt := .nm 8) (NLM.blocksOf msg (NLM.needsIn lay)) dI (fun b => .int (NLM.lawValue p b ((i : Int) + 1))) (gb := fun b => [.dat (.int p), .dat (dI lay), .dat (dI msg), .dat (.list ((NLM.blocksOf msg (NLM.needsIn lay)).map dI)), .dat (.int ((NLM.needsIn lay).foldl (NLM.blockStep msg) ([], 0)).2), k, .mls ((List.range i).map fun (i : Nat) => dI (NLM.letterOf p lay msg i)), .dat (.int (0 + (i : Int))), .dat (dI b)]) rfl sc_letters.nd (di_list (pd_var 3 rfl)) (blkOk_by rfl) (fun _ _ _ _ _ => pg_nm 8 sc_letters.nd) (lt_size (by rw [NLM.blocksOf_eq, NLM.bl_len]; omega)) ins1 (fun x hx => .nm)
          (fun b hb s H C' cl fp => pd_call cv hr (da_cons (pd_var 0 rfl) (da_cons (pd_var 8 rfl) (da_cons (pd_add (pd_var 7 rfl) pd_int) da_nil))) ⟨p, b, (i : Int) + 1, hp, bl_small hsm _ 0 b (by rw [← NLM.blocksOf_eq]; exact hb), by omega, by omega, by rw [Int.zero_add], rfl⟩))) (by unfold NLM.letterOf dI; rw [List.map_map]; rfl)) (lt_size (by rw [map_len, List.length_range]; omega))) (sd_end ⟨.dat (.int (0 + (i : Int))), ?_⟩ (Weak.refl _))⟩
      rw [List.range_succ, List.map_append]
      rfl
    · rintro G1 ⟨k7, rfl⟩
      rw [rngD_len]
      refine sd_freeze 6 rfl (sd_last (sd_ret (pd_tupleL T.tuple (pd_var 6 rfl)) ?_))
      unfold dLet NLM.lettersOf
      rw [List.map_map]
      rfl
end
end NL
set_option maxHeartbeats 2000000
/-! Defs of the law over data: what does not fit, suspects, what is read. -/
namespace NL
open PySem PySem.Spec PyProof.Rows L2 StX
theorem fits_drop {p : Int} {pts : NLM.Pts} {k : Nat} (g : NLM.Good p pts) : NLM.fitsP p pts k = (pts.drop k).all fun q => decide (NLM.lawBetween p (pts.take k) q.1 = q.2) := by
  have e : (fun q : Int × Int => decide (NLM.lawBetween p (pts.take k) q.1 = q.2)) = fun q => decide (NLM.valueIn p (NLM.throughIn p (pts.take k)) q.1 = q.2) := funext fun q => by
    rw [NLM.between_same (g.sub (List.take_sublist k pts)).un]
  rw [e]
  unfold NLM.fitsP
  by_cases h : pts.length ≤ k
  · rw [decide_eq_true h, Bool.true_or, List.drop_eq_nil_of_le h]
    rfl
  · rw [decide_eq_false h, Bool.false_or]
section
variable {P : Program} {w : World} {K : PySem.W.Frag} {mg : Str → Option Value} {base : Heap} {C f : Addr} {fd : FuncData}
def R_unfit (ks : List SK) (d : PyData) : Prop := ∃ (p : Int) (lay : List Int) (mail : NLM.Mail), NLM.LayOk lay ∧ NLM.MailOk p lay mail ∧ ks = [.dat (.int p), .dat (dI lay), .dat (dML mail)] ∧ d = dL (NLM.unfitIn p lay mail)
theorem sc_unfit : FnScope ["_law_prime_so", "_law_shares_here", "_law_came", "_law_found", "_law_place", "_law_need", "_law_points", "_law_sign", "_law_height", "_law_number", "_law_letter"] ["_law_prime_so", "_law_shares_here", "_law_came"] (defScope sUnfit) := ⟨rfl, rfl, rfl, by decide +kernel, rfl, by decide +kernel, by decide +kernel⟩
theorem ok_unfit (T : Free mg) (cn : CalD P w K mg base C 1 "_law_needs" R_needs) (cb : CalD P w K mg base C 2 "_law_between" R_between) (F : FnP K "_law_unfit" "_law_unfit" sUnfit [] f fd) (hm : mg "_law_unfit" = some (.ref f)) : CalD P w K mg base C 3 "_law_unfit" R_unfit := by
  refine cal_sd F hm sc_unfit (fun _ _ _ _ _ _ us hl => match us, hl with | [_, _, _], _ => rfl) (fun ks d ⟨_, _, _, _, _, h, _⟩ => by rw [h] <;> rfl) fun cdv A outer s H E ks d hr ⟨p, lay, mail, hl, hM, hks, hd⟩ => ?_
  subst hks hd
  have h12 := NLM.needs_len12 hl
  have h8 := hl.l8
  have hsh := hM.short
  refine sd_seq (sd_newD 3 sc_unfit.nd) ?_
  refine sd_cons (sd_for (ds := (NLM.needsIn lay).zipIdx.map encI) (fun i G => ∃ ks k4 k5 k6 k7 k8, ks.length ≤ i ∧ ks = ((NLM.needsIn lay).zipIdx.take i).foldl (NLM.unfitStep p mail) [] ∧ G = [.dat (.int p), .dat (dI lay), .dat (dML mail), .mdk ks, k4, k5, k6, k7, k8, .un, .un]) rfl (di_is (di_enumL T.enumerate (pd_call cn hr (da_cons (pd_var 1 rfl) da_nil) ⟨lay, hl, rfl, rfl⟩)) (enum_ints (NLM.needsIn lay))) (pg_pr 4 5 rfl sc_unfit.nd) ⟨[], .un, .un, .un, .un, .un, Nat.le_refl _, rfl, rfl⟩ ?_ fun G' h => h) ?_
  · rintro i d Gi hd ⟨ks, k4, k5, k6, k7, k8, hk, hks, rfl⟩
    obtain ⟨⟨n, j⟩, ho, rfl⟩ := map_at hd
    obtain ⟨rfl, hbo⟩ := zipIdx_at ho
    have hj : j < (NLM.needsIn lay).length := (List.getElem?_eq_some_iff.mp hbo).1
    have hn := needs_nat (List.mem_of_getElem? hbo)
    have hlm : ∀ m ∈ mail, j < m.2.length := fun m hm => by rw [hM.len m hm]; exact hj
    have g := hM.good hl j
    have hplen := NLM.ptsAt_len mail j
    refine ⟨_, .pr, ?_⟩
    refine sd_seq (sd_setLc0 (own := [("_law_number", 9), ("_law_letter", 10)]) (pt := .pr 9 10) 6 mail encM (fun m => encP (m.1 + 1, m.2.getD j 0)) (gb := fun m => [.dat (.int p), .dat (dI lay), .dat (dML mail), .mdk ks, .dat (.int (j : Int)), .dat (.int n), k6, k7, k8, .dat (.int m.1), .dat (dI m.2)]) rfl sc_unfit.nd (di_list (pd_var 2 rfl)) (blkOk_by rfl) (fun _ _ _ _ _ => pg_pr 9 10 rfl sc_unfit.nd) (lt_size (by omega)) ins2 (fun x hx => .pr)
      (fun m hm s H C' cl fp => pd_tup (ds_cons (pd_add (pd_var 9 rfl) pd_int) (ds_cons (pd_ixT (pd_var 10 rfl) (pd_var 4 rfl) (atI_ints (hlm m hm))) ds_nil)) (by show 2 ≤ sizeLine; decide))) ?_
    rw [show (mail.map fun m => encP (m.1 + 1, m.2.getD j 0)) = (NLM.ptsAt mail j).map encP from by unfold NLM.ptsAt; rw [List.map_map]; rfl]
    refine sd_last ?_
    have fin : ∀ b : Bool, b = ((NLM.ptsAt mail j).drop n.toNat).all (fun q => decide (NLM.lawBetween p ((NLM.ptsAt mail j).take n.toNat) q.1 = q.2)) → (if b = true then ks else insK ks n) = NLM.unfitStep p mail ks (n, j) := fun b hb => by
      rw [hb, ← fits_drop g]
      rfl
    refine sd_for (ds := ((NLM.ptsAt mail j).drop n.toNat).map encP) (fun t G => ∃ k7 k8, G = [.dat (.int p), .dat (dI lay), .dat (dML mail), .mdk (if (((NLM.ptsAt mail j).drop n.toNat).take t).all (fun q => decide (NLM.lawBetween p ((NLM.ptsAt mail j).take n.toNat) q.1 = q.2)) = true then ks else insK ks n), .dat (.int (j : Int)), .dat (.int n), .dat (.list ((NLM.ptsAt mail j).map encP)), k7, k8, .un, .un]) rfl
      (di_is (di_list (pd_slL (pd_var 6 rfl) (do_some (pd_is (pd_var 5 rfl) (congrArg PyData.int hn.symm))) do_none)) (by rw [cutD_from, List.map_drop])) (pg_pr 7 8 rfl sc_unfit.nd) ⟨k7, k8, rfl⟩ ?_ ?_
    · rintro t d Gt hdt ⟨k7, k8, rfl⟩
      obtain ⟨⟨sign, height⟩, hz, rfl⟩ := map_at hdt
      have hmem : (sign, height) ∈ NLM.ptsAt mail j := List.mem_of_mem_drop (List.mem_of_getElem? hz)
      have hlo := g.lo _ hmem
      have g1 := g.sub (List.take_sublist n.toNat (NLM.ptsAt mail j))
      have hstep : (((NLM.ptsAt mail j).drop n.toNat).take (t + 1)).all (fun q => decide (NLM.lawBetween p ((NLM.ptsAt mail j).take n.toNat) q.1 = q.2)) = ((((NLM.ptsAt mail j).drop n.toNat).take t).all (fun q => decide (NLM.lawBetween p ((NLM.ptsAt mail j).take n.toNat) q.1 = q.2)) && decide (NLM.lawBetween p ((NLM.ptsAt mail j).take n.toNat) sign = height)) := by
        rw [List.take_add_one, hz, List.all_append]
        congr 1
        show (_ && true) = _
        rw [Bool.and_true]
      refine ⟨_, .pr, sd_last (sd_if (pt_neI (pd_call cb hr (da_cons (pd_var 0 rfl) (da_cons (pd_is (pd_slL (pd_var 6 rfl) do_none (do_some (pd_is (pd_var 5 rfl) (congrArg PyData.int hn.symm)))) (by rw [cutD_to, ← List.map_take])) (da_cons (pd_var 7 rfl) da_nil))) ⟨p, (NLM.ptsAt mail j).take n.toNat, sign, g1, hlo.1, hlo.2, rfl, rfl⟩) (pd_var 8 rfl)) (fun h => ?_) fun h => ?_)⟩
      · have hne : ¬ NLM.lawBetween p ((NLM.ptsAt mail j).take n.toNat) sign = height := fun e => by
          rw [decide_eq_true e] at h
          cases h
        refine sd_seq (sd_dput' 3 hr rfl (lt_size ?_) pd_bool (pd_var 5 rfl)) (sd_end ⟨.dat (.int sign), .dat (.int height), ?_⟩ (Weak.refl _))
        · have := NLM.ins_len ks n
          rw [← insK_eq] at this
          split <;> omega
        · rw [hstep, decide_eq_false hne, Bool.and_false, if_neg Bool.false_ne_true]
          have e : insK (if (((NLM.ptsAt mail j).drop n.toNat).take t).all (fun q => decide (NLM.lawBetween p ((NLM.ptsAt mail j).take n.toNat) q.1 = q.2)) = true then ks else insK ks n) n = insK ks n := by
            split
            · rfl
            · unfold insK
              by_cases hin : n ∈ ks
              · rw [if_pos hin, if_pos hin]
              · rw [if_neg hin, if_pos (List.mem_append.mpr (.inr (List.mem_singleton.mpr rfl)))]
          show [_, _, _, SK.mdk (insK _ n), _, _, _, _, _, _, _] = _
          rw [e]
      · have hne : NLM.lawBetween p ((NLM.ptsAt mail j).take n.toNat) sign = height := by
          by_cases e : NLM.lawBetween p ((NLM.ptsAt mail j).take n.toNat) sign = height
          · exact e
          · rw [decide_eq_false e] at h
            cases h
        refine sd_end ⟨.dat (.int sign), .dat (.int height), ?_⟩ (Weak.refl _)
        rw [hstep, decide_eq_true hne, Bool.and_true]
        rfl
    · rintro G' ⟨k7, k8, rfl⟩
      rw [map_len, List.take_length]
      refine ⟨_, .dat (.int (j : Int)), .dat (.int n), .dat (.list ((NLM.ptsAt mail j).map encP)), k7, k8, ?_, ?_, rfl⟩
      · have := NLM.ins_len ks n
        rw [← insK_eq] at this
        split <;> omega
      · rw [fold_take ho, ← hks]
        exact fin _ rfl
  · rintro G1 ⟨ks, k4, k5, k6, k7, k8, hk, hks, rfl⟩
    rw [map_len, fold_all] at hks
    have hks : ks = NLM.unfitIn p lay mail := hks
    subst hks
    exact sd_last (sd_ret (pd_sortedK 3 rfl T.sorted rfl (by have := NLM.unfit_len p lay mail; omega) (NLM.unfit_asc p lay mail)) rfl)
def R_suspects (ks : List SK) (d : PyData) : Prop := ∃ (p : Int) (lay : List Int) (mail : NLM.Mail), NLM.LayOk lay ∧ NLM.MailOk p lay mail ∧ ks = [.dat (.int p), .dat (dI lay), .dat (dML mail)] ∧ d = dI (NLM.suspectsIn p lay mail)
theorem sc_suspects : FnScope ["_law_prime_so", "_law_shares_here", "_law_came", "_law_found", "_law_number", "_law_letter", "_law_pair"] ["_law_prime_so", "_law_shares_here", "_law_came"] (defScope sSuspects) := ⟨rfl, rfl, rfl, by decide +kernel, rfl, by decide +kernel, by decide +kernel⟩
theorem ok_suspects (T : Free mg) (cu : CalD P w K mg base C 3 "_law_unfit" R_unfit) (F : FnP K "_law_suspects" "_law_suspects" sSuspects [] f fd) (hm : mg "_law_suspects" = some (.ref f)) : CalD P w K mg base C 4 "_law_suspects" R_suspects := by
  refine cal_sd F hm sc_suspects (fun _ _ _ _ _ _ us hl => match us, hl with | [_, _, _], _ => rfl) (fun ks d ⟨_, _, _, _, _, h, _⟩ => by rw [h] <;> rfl) fun cdv A outer s H E ks d hr ⟨p, lay, mail, hl, hM, hks, hd⟩ => ?_
  subst hks hd
  have h8 := hl.l8
  have hsh := hM.short
  refine sd_seq (sd_newL 3 sc_suspects.nd) ?_
  obtain ⟨mx, hmx⟩ : ∃ mx : NLM.Mail, mx = (if NLM.unfitIn p lay mail = [] then [] else mail) := ⟨_, rfl⟩
  have hml : mx.length ≤ mail.length := by
    rw [hmx]
    split
    · exact Nat.zero_le _
    · exact Nat.le_refl _
  refine sd_cons (sd_for (ds := mx.map encM) (fun i G => ∃ k4 k5, G = [.dat (.int p), .dat (dI lay), .dat (dML mail), .mls ((((mx.take i).filter fun m => decide (NLM.unfitIn p lay (NLM.without mail m.1) = [])).map (·.1)).map .int), k4, k5, .un]) rfl
    (di_list (pd_if (k1 := !decide (NLM.unfitIn p lay mail = [])) (pd_isT (pt_ne hr (pd_call cu hr (da_cons (pd_var 0 rfl) (da_cons (pd_var 1 rfl) (da_cons (pd_var 2 rfl) da_nil))) ⟨p, lay, mail, hl, hM, rfl, rfl⟩) (pd_lst ds_nil (Nat.zero_le _)) sh_ints.1 sh_nil) (congrArg not dL_nil)) (fun h => ?_) fun h => ?_)) (pg_pr 4 5 rfl sc_suspects.nd) ⟨.un, .un, rfl⟩ ?_ fun G' h => h) ?_
  · have hne : ¬ NLM.unfitIn p lay mail = [] := fun e => by rw [decide_eq_true e] at h; cases h
    rw [hmx, if_neg hne]
    exact pd_var 2 rfl
  · have he : NLM.unfitIn p lay mail = [] := by
      by_cases e : NLM.unfitIn p lay mail = []
      · exact e
      · rw [decide_eq_false e] at h; cases h
    rw [hmx, if_pos he]
    exact pd_lst ds_nil (Nat.zero_le _)
  · rintro i d Gi hd ⟨k4, k5, rfl⟩
    obtain ⟨⟨n, letter⟩, ho, rfl⟩ := map_at hd
    have hi := (List.getElem?_eq_some_iff.mp ho).1
    have hM2 : NLM.MailOk p lay (NLM.without mail n) := hM.sub List.filter_sublist
    refine ⟨_, .pr, sd_last (sd_if (pd_isT (pt_eq hr (pd_call cu hr (da_cons (pd_var 0 rfl) (da_cons (pd_var 1 rfl) (da_cons (d := dML (NLM.without mail n)) (pd_lcT (own := [("_law_pair", 6)]) (pt := .nm 6) mail encM (fun x => !decide (x.1 = n)) encM
        (gb := fun x => [.dat (.int p), .dat (dI lay), .dat (dML mail), .mls ((((mx.take i).filter fun m => decide (NLM.unfitIn p lay (NLM.without mail m.1) = [])).map (·.1)).map .int), .dat (.int n), .dat (dI letter), .dat (encM x)]) rfl sc_suspects.nd (di_list (pd_var 2 rfl)) (blkOk_by rfl) (fun _ _ _ _ _ => pg_nm 6 sc_suspects.nd) (lt_size (by omega)) ins1 (fun x hx => .nm)
        (fun x hx s H C' cl fp => pts_one (pt_neI (pd_ixT (d := .int x.1) (pd_var 6 rfl) pd_int (atI_nat (j := 0) rfl)) (pd_var 4 rfl))) (fun x hx hb s H C' cl fp => pd_var 6 rfl)) da_nil))) ⟨p, lay, NLM.without mail n, hl, hM2, rfl, rfl⟩) (pd_lst ds_nil (Nat.zero_le _)) sh_ints.1 sh_nil) dL_nil) (fun h => ?_) fun h => ?_)⟩
    · refine sd_seq (sd_app' 3 rfl (pd_var 4 rfl) (lt_size ?_)) (sd_end ⟨.dat (.int n), .dat (dI letter), ?_⟩ (Weak.refl _))
      · rw [map_len, map_len]
        have := List.length_filter_le (fun m => decide (NLM.unfitIn p lay (NLM.without mail m.1) = [])) (mx.take i)
        rw [List.length_take] at this
        omega
      · rw [take_filter_map _ _ ho, if_pos h, List.map_append]
        rfl
    · refine sd_end ⟨.dat (.int n), .dat (dI letter), ?_⟩ (Weak.refl _)
      rw [take_filter_map _ _ ho, if_neg (by rw [h]; exact Bool.false_ne_true), List.append_nil]
      rfl
  · rintro G1 ⟨k4, k5, rfl⟩
    refine sd_freeze 3 rfl (sd_last (sd_ret (pd_tupleL T.tuple (pd_var 3 rfl)) ?_))
    rw [map_len, List.take_length]
    unfold NLM.suspectsIn
    by_cases e : NLM.unfitIn p lay mail = []
    · rw [hmx, if_pos e, if_pos e]
      rfl
    · rw [hmx, if_neg e, if_neg e]
      rfl
end
end NL
set_option maxHeartbeats 2000000
/-! Defs of the law over data: what is read is right. -/
namespace NL
open PySem PySem.Spec PyProof.Rows L2 StX
theorem filter_no {α : Type} (xs : List α) : xs.filter (fun _ => false) = [] := List.filter_eq_nil_iff.mpr fun _ _ h => nomatch h
theorem eqv_nn : PyData.eqv (.list []) (.list []) = true := by simp only [PyData.eqv, PyData.eqvAll]
section
variable {P : Program} {w : World} {K : PySem.W.Frag} {mg : Str → Option Value} {base : Heap} {C f : Addr} {fd : FuncData}
def R_read_right (ks : List SK) (d : PyData) : Prop := ∃ (p : Int) (lay : List Int) (mail : NLM.Mail), NLM.LayOk lay ∧ NLM.MailOk p lay mail ∧ NLM.unfitIn p lay mail = [] ∧ ks = [.dat (.int p), .dat (dI lay), .dat (dML mail), .dat (dI (NLM.readIn p lay mail))] ∧ d = .bool true
theorem sc_read_right : FnScope ["_law_prime_so", "_law_shares_here", "_law_came", "_law_signs", "_law_stair_here", "_law_at", "_law_place", "_law_need", "_law_block", "_law_sign", "_law_number", "_law_letter"] ["_law_prime_so", "_law_shares_here", "_law_came", "_law_signs"] (defScope sReadRight) := ⟨rfl, rfl, rfl, by decide +kernel, rfl, by decide +kernel, by decide +kernel⟩
theorem read_le {p : Int} {lay : List Int} {mail : NLM.Mail} (hl : NLM.LayOk lay) (hM : NLM.MailOk p lay mail) : (NLM.readIn p lay mail).length ≤ 96 := by
  have e := NLM.cat_len (c := mail.length) (T := NLM.tAt p mail) (NLM.needsIn lay) 0 [] fun i n hn hc => by
    have := NLM.needsIn_range n (List.mem_of_getElem? hn)
    exact NLM.tAt_len hl hM (by omega) hc
  have h12 := NLM.needs_len12 hl
  have h8 := hl.l8
  have bound : ∀ (l : List Int), (∀ x ∈ l, x ≤ 8) → l.sum ≤ 8 * l.length := fun l => by
    induction l with
    | nil => exact fun _ => by rw [List.sum_nil]; exact Int.le_refl _
    | cons x l ih =>
      intro h
      have h1 := h x List.mem_cons_self
      have h2 := ih fun y hy => h y (List.mem_cons_of_mem _ hy)
      rw [List.sum_cons, List.length_cons]
      omega
  have b := bound ((NLM.needsIn lay).filter fun k => decide (k ≤ (mail.length : Int))) fun x hx => by
    have := NLM.needsIn_range x (List.mem_filter.mp hx).1
    omega
  have fl := List.length_filter_le (fun k => decide (k ≤ (mail.length : Int))) (NLM.needsIn lay)
  have e2 : ((NLM.readIn p lay mail).length : Int) = ((0 : Nat) : Int) + NLM.sumLe mail.length (NLM.needsIn lay) := e
  unfold NLM.sumLe at e2
  omega
theorem stairD {lay : List Int} : PyData.tuple ([PyData.int 0] ++ (NLM.stairIn lay).map .int) = dI (0 :: NLM.stairIn lay) := rfl
theorem stairIn_len {lay : List Int} (hl : NLM.LayOk lay) : (NLM.stairIn lay).length ≤ 8 := by
  rw [NLM.stairIn_eq, NLM.stairFrom_len]
  exact hl.l8
theorem read_at {p : Int} {lay : List Int} {mail : NLM.Mail} (hl : NLM.LayOk lay) (hM : NLM.MailOk p lay mail) : atI ((0 :: NLM.stairIn lay).map PyData.int) (mail.length : Int) = some (.int ((NLM.readIn p lay mail).length : Int)) :=
  atI_nat (by rw [List.getElem?_map, NLM.read_len hl hM]; rfl)
theorem ok_read_right (T : Free mg) (cs : CalD P w K mg base C 1 "_law_stair" R_stair) (cn : CalD P w K mg base C 1 "_law_needs" R_needs) (cv : CalD P w K mg base C 1 "_law_value" R_value) (F : FnP K "_law_read_right" "_law_read_right" sReadRight [] f fd) (hm : mg "_law_read_right" = some (.ref f)) : CalD P w K mg base C 2 "_law_read_right" R_read_right := by
  refine cal_sd F hm sc_read_right (fun _ _ _ _ _ _ us hl => match us, hl with | [_, _, _, _], _ => rfl) (fun ks d ⟨_, _, _, _, _, _, h, _⟩ => by rw [h] <;> rfl) fun cdv A outer s H E ks d hr ⟨p, lay, mail, hl, hM, hu, hks, hd⟩ => ?_
  subst hks hd
  have hpb := NLM.pr_pos hM.pr
  have h12 := NLM.needs_len12 hl
  have h8 := hl.l8
  have hsh := hM.short
  have hrl := read_le hl hM
  have hrr := NLM.read_range hM
  refine sd_seq (sd_set 4 sc_read_right.nd (d := dI (0 :: NLM.stairIn lay)) (pd_is (pd_catT (es := (NLM.stairIn lay).map .int) (pd_tup (ds_cons pd_int ds_nil) (by show 1 ≤ sizeLine; decide)) (pd_call cs hr (da_cons (pd_var 1 rfl) da_nil) ⟨lay, hl, rfl, rfl⟩) (Nat.le_of_lt (lt_size (by rw [map_len]; have := stairIn_len hl; show 1 + _ ≤ 1000; omega)))) stairD)) ?_
  refine sd_seq (sd_no (pd_isT (pt_or (pt_notD (pt_valD (pd_isi (d := dI (NLM.readIn p lay mail)) (k1 := true) T.isinstance T.tuple (n := "tuple") (by decide +kernel) (pd_var 3 rfl) kit_tt))) fun _ => pw_or1 (pt_neI (pd_lenT T.len (pd_var 3 rfl)) (pd_ixT (pd_var 4 rfl) (pd_lenL T.len (pd_var 2 rfl)) (by rw [map_len]; exact read_at hl hM)))).pt ?_)) ?_
  · rw [map_len, decide_eq_true rfl]
    rfl
  refine sd_seq (sd_no (pd_isT (pt_ne hr (d1 := .list []) (pd_is (pd_lcT (own := [("_law_sign", 9)]) (pt := .nm 9) (NLM.readIn p lay mail) .int (fun _ => false) (fun _ => .int 1) (gb := fun i => [.dat (.int p), .dat (dI lay), .dat (dML mail), .dat (dI (NLM.readIn p lay mail)), .dat (dI (0 :: NLM.stairIn lay)), .un, .un, .un, .un, .dat (.int i), .un, .un]) rfl sc_read_right.nd (di_tup (pd_var 3 rfl)) (blkOk_by rfl) (fun _ _ _ _ _ => pg_nm 9 sc_read_right.nd) (lt_size (by omega)) ins1 (fun x hx => .nm)
    (fun i hi s H C' cl fp => pts_one (pd_isT (pt_or (pt_notD (pt_valD (pd_isi (d := .int i) (k1 := true) T.isinstance T.int (n := "int") (by decide +kernel) (pd_var 9 rfl) kit_ii))) fun _ => pt_or (pt_valD (pd_isi (d := .int i) (k1 := false) T.isinstance T.bool (n := "bool") (by decide +kernel) (pd_var 9 rfl) kit_ib)) fun _ => pw_or1 (pt_notD (pt_lelt pd_int (pd_var 9 rfl) (pd_var 0 rfl)))).pt (by rw [decide_eq_true (hrr i hi).1, decide_eq_true (hrr i hi).2]; rfl)))
    (fun i hi hb s H C' cl fp => pd_int)) (by rw [filter_no]; rfl)) (pd_lst ds_nil (Nat.zero_le _)) sh_nil sh_nil) (by rw [eqv_nn]; rfl))) ?_
  refine sd_seq (sd_set 5 sc_read_right.nd pd_int) ?_
  refine sd_cons (sd_for (ds := (NLM.needsIn lay).zipIdx.map encI) (fun i G => ∃ k6 k7 k8, G = [.dat (.int p), .dat (dI lay), .dat (dML mail), .dat (dI (NLM.readIn p lay mail)), .dat (dI (0 :: NLM.stairIn lay)), .dat (.int ((((NLM.needsIn lay).zipIdx.take i).foldl (NLM.readStep p mail) []).length : Int)), k6, k7, k8, .un, .un, .un]) rfl (di_is (di_enumL T.enumerate (pd_call cn hr (da_cons (pd_var 1 rfl) da_nil) ⟨lay, hl, rfl, rfl⟩)) (enum_ints (NLM.needsIn lay))) (pg_pr 6 7 rfl sc_read_right.nd) ⟨.un, .un, .un, rfl⟩ ?_ fun G' h => h) ?_
  · rintro i d Gi hd ⟨k6, k7, k8, rfl⟩
    obtain ⟨⟨n, j⟩, ho, rfl⟩ := map_at hd
    obtain ⟨rfl, hbo⟩ := zipIdx_at ho
    have hj : j < (NLM.needsIn lay).length := (List.getElem?_eq_some_iff.mp hbo).1
    have hmem := List.mem_of_getElem? hbo
    have hn := needs_nat hmem
    have hnr := NLM.needsIn_range n hmem
    refine ⟨_, .pr, sd_last (sd_if (pt_le (pd_var 7 rfl) (pd_lenL T.len (pd_var 2 rfl))) (fun h => ?_) fun h => ?_)⟩
    · have h' := of_decide_eq_true h
      rw [map_len] at h'
      have htl := NLM.tAt_len hl hM (j := j) (n := n) (by omega) h'
      have hpart : ((NLM.readIn p lay mail).drop ((((NLM.needsIn lay).zipIdx.take j).foldl (NLM.readStep p mail) []).length : Int).toNat).take n.toNat = NLM.tAt p mail j n := by
        have e := NLM.cat_part (c := mail.length) (T := NLM.tAt p mail) ho h'
        rw [show (NLM.tAt p mail j n).length = n.toNat by omega] at e
        rw [Int.toNat_natCast]
        exact e
      have hts : SmallI (NLM.tAt p mail j n) := fun o ho => by
        have := NLM.through_range (p := p) (by omega) _ o ho
        omega
      refine sd_seq (sd_set 8 sc_read_right.nd (d := dI (NLM.tAt p mail j n)) (pd_is (pd_slT (pd_var 3 rfl) (do_some (pd_var 5 rfl)) (do_some (pd_add (pd_var 5 rfl) (pd_var 7 rfl)))) (by rw [cut_ints (by omega) (by omega), hpart]; rfl))) ?_
      refine sd_seq (sd_set 5 sc_read_right.nd (pd_add (pd_var 5 rfl) (pd_var 7 rfl))) ?_
      refine sd_seq (sd_no (pd_isT (pt_ne hr (d1 := .list []) (pd_is (pd_lcT (own := [("_law_number", 10), ("_law_letter", 11)]) (pt := .pr 10 11) mail encM (fun _ => false) (fun _ => .int 1) (gb := fun m => [.dat (.int p), .dat (dI lay), .dat (dML mail), .dat (dI (NLM.readIn p lay mail)), .dat (dI (0 :: NLM.stairIn lay)), .dat (.int (((((NLM.needsIn lay).zipIdx.take j).foldl (NLM.readStep p mail) []).length : Int) + n)), .dat (.int (j : Int)), .dat (.int n), .dat (dI (NLM.tAt p mail j n)), .un, .dat (.int m.1), .dat (dI m.2)]) rfl sc_read_right.nd (di_list (pd_var 2 rfl)) (blkOk_by rfl) (fun _ _ _ _ _ => pg_pr 10 11 rfl sc_read_right.nd) (lt_size (by omega)) ins2 (fun x hx => .pr)
        (fun m hm s H C' cl fp => pts_one (pd_isT (pt_neI (pd_call cv hr (da_cons (pd_var 0 rfl) (da_cons (pd_var 8 rfl) (da_cons (pd_add (pd_var 10 rfl) pd_int) da_nil))) ⟨p, _, m.1 + 1, hM.pr, hts, by have := hM.lo m hm; omega, by have := hM.lo m hm; omega, rfl, rfl⟩) (pd_ixT (pd_var 11 rfl) (pd_var 6 rfl) (atI_ints (by rw [hM.len m hm]; exact hj)))) (by rw [NLM.read_value hl hM hu hbo h' hm, decide_eq_true rfl]; rfl)))
        (fun m hm hb s H C' cl fp => pd_int)) (by rw [filter_no]; rfl)) (pd_lst ds_nil (Nat.zero_le _)) sh_nil sh_nil) (by rw [eqv_nn]; rfl))) ?_
      refine sd_end ⟨.dat (.int (j : Int)), .dat (.int n), .dat (dI (NLM.tAt p mail j n)), ?_⟩ (Weak.refl _)
      rw [fold_take ho]
      have e : NLM.readStep p mail (((NLM.needsIn lay).zipIdx.take j).foldl (NLM.readStep p mail) []) (n, j) = ((NLM.needsIn lay).zipIdx.take j).foldl (NLM.readStep p mail) [] ++ NLM.tAt p mail j n := if_pos h'
      rw [e, List.length_append, Int.natCast_add, htl]
      rfl
    · have h' := of_decide_eq_false h
      rw [map_len] at h'
      refine sd_end ⟨.dat (.int (j : Int)), .dat (.int n), k8, ?_⟩ (Weak.refl _)
      rw [fold_take ho]
      have e : NLM.readStep p mail (((NLM.needsIn lay).zipIdx.take j).foldl (NLM.readStep p mail) []) (n, j) = ((NLM.needsIn lay).zipIdx.take j).foldl (NLM.readStep p mail) [] := if_neg h'
      rw [e]
      rfl
  · rintro G1 ⟨k6, k7, k8, rfl⟩
    exact sd_last (sd_ret pd_bool rfl)
end
end NL
set_option maxHeartbeats 4000000
/-! The machine's rules lacking: an own base class's __init__ named, len of an own instance. -/
namespace NL
open PySem PySem.Spec PyProof.Rows L2 StX
section
variable {X : Cx} {o e : Expr} {es : List Expr} {to te : TE} {ta : TA} {f : Str} {p p' p1 p2 pos : Pos}
/-- B.__init__(self, ..), B an own class (at b) whose __init__ is ValueError's -/
theorem pe_binit {pl : Sem Bool} {b : Addr} {B : Str} {mc : Value} (hg : Gl X B) (hm : X.mg B = some (.ref b)) (hr : PySem.W.readsIn X.K b mc = true) (hga : PySem.W.specialIn X.K (.ref b) "__getattribute__" = some (some (.builtin "type.__getattribute__")))
    (hf : PySem.W.findCls X.K (.ref b) mc "__init__" = some (.val (.builtin "ValueError.__init__"))) (ha : PA X (e :: es) ta) (hdb : (B == ("__debug__" : Str)) = false := by decide)
    (hc : eval (.Call (.Attribute (.Name B p1) "__init__" p2) (e :: es) [] pos) X.env = (do
      let ov ← eval (.Name B p1) X.env
      standAt p2.atName
      let (f, first) ← holding [ov] (getMethod ov "__init__" pl)
      callWith pos f first (backTo pos (starEach (e :: es) X.env)) (backToKw pos (keywordEach [] X.env))) := by rfl)
    (he : starEach (e :: es) X.env = (false, eval e X.env) :: starEach es X.env := by rfl) (hpl : (backTo pos (starEach es X.env)).any (·.1) = false := by rfl) :
    PE X (.Call (.Attribute (.Name B p1) "__init__" p2) (e :: es) [] pos) (tVeI X.K ta) := by
  refine ⟨fun pins s σ H Q I h => ?_⟩
  refine PySem.W.methodCall_KW (ld_glob I hg hm ?_ hdb) hc
  refine PySem.W.method_cls I.kIn hga (PySem.W.cls_value I.kIn hr hf (by rfl) ?_)
  show wpAny _ _ (callWith pos (Value.builtin "ValueError.__init__") [] (backTo pos (starEach (e :: es) X.env)) []) _ _ _
  refine PyProof.Rows.callWith_method1 (thn (ha.run pos pins _ σ H _ (I.tok _) h) fun us s1 ⟨vs, H1, I1, r1, a, C, ws, ev, hl, T, ea, q⟩ => ?_) he hpl
  subst ev
  cases r1 with
  | @cons _ u0 _ ur ra rw' =>
    obtain rfl : u0 = Value.ref a := ra
    have hlen : ur.length ≤ sizeLine := by
      rw [← Paired.length rw', sizeLine_eq]
      omega
    exact oinit_ok T I1 ea hlen fun s' J => ⟨.non, H1, J, rfl, q⟩
/-- len(o), o an instance of an own class whose __len__ is a def -/
def rLenI (K : PySem.W.Frag) (C : Addr) (sp : Sp) : List V → Hp → VK → Prop := fun xs H Q => ∃ a dx fs, xs = [.ref a] ∧ H a = some (.ins C dx fs) ∧ sp [.ref a] H (fun v H' => ∃ n : Int, v = .int n ∧ 0 ≤ n ∧ n < 2 ^ 62 ∧ Q v H') E0
theorem call_lenI {C g : Addr} {k : Nat} {fd : FuncData} {ps : List Str} {sp : Sp} (hm : Meth X.K C "__len__" g) (F : FnOk X.prog X.w X.K X.mg X.base CX0 k g fd ps sp) (hr : Room (k + 1) X.A) (hb : Binds X.K fd ps []) : CallR X (.builtin "len") (rLenI X.K C sp) := by
  intro pins s σ H xs us Q I r h
  obtain ⟨a, dx, fs, rfl, ea, q⟩ := h
  obtain ⟨u, rfl, rx⟩ := vals1 r
  cases rx
  obtain ⟨mA, O, _, _, _, _⟩ := ins_get I.hok ea
  obtain ⟨od, J, _⟩ := O.look
  obtain ⟨m, fr⟩ := I.fr
  refine PySem.W.len_K fr I.ok.mod.kin J hm.at_ hm.fn ?_
  have hl : ([Value.ref a] ++ ([] : List Value)).length = ps.length := by
    rw [← F.len _ _ _ _ q]
    rfl
  refine wpAny_call (codeAny_mono (F.run X.A.in1 X.stack s H ⟨[.ref a], []⟩ [.ref a] [.ref a] _ E0 hr.in1 I.env0.in1 (hb s [.ref a] I.kIn hl) (.cons rfl .nil) q) fun r s' hq => ?_)
  cases r with
  | error er => exact False.elim hq
  | ok fl =>
    cases fl with
    | ret u =>
      obtain ⟨v, H', I3, rv, n, ev, h0, h1, q3⟩ := I.after hq
      subst ev
      obtain ⟨t, rfl⟩ := (show ∃ t, u = Value.int n t from rv)
      exact ⟨⟨h0, by omega⟩, ⟨.int n, H', I3.tok _, ⟨_, rfl⟩, q3⟩⟩
    | next => exact False.elim hq
    | brk => exact False.elim hq
    | cont => exact False.elim hq
end
end NL
set_option maxHeartbeats 2000000
/-! Receivers: fields, properties, methods that read. -/
namespace NL
open PySem PySem.Spec PyProof.Rows L2 StX
/-- what is asked of the class -/
structure Rcls (K : PySem.W.Frag) (C : Addr) : Prop where
  cls : Cls K C
  np : NoAttr K C "own_prime"
  nl : NoAttr K C "own_laying"
  nh : NoAttr K C "own_past"
abbrev Past := List (PyData × NLM.Mail)
def encR (r : PyData × NLM.Mail) : PyData := .tuple [r.1, dM r.2]
def dPast (ps : Past) : PyData := .tuple (ps.map encR)
/-- a method over data, by its name -/
structure MetD (P : Program) (w : World) (K : PySem.W.Frag) (mg : Str → Option Value) (base : Heap) (C : Addr) (k : Nat) (m : Str) (R : List SK → PyData → Prop) : Prop where
  ex : ∃ (f : Addr) (fd : FuncData) (ps : List Str), FnOk P w K mg base CX0 k f fd ps (SpD K C R) ∧ Meth K C m f ∧ Binds K fd ps []
section
variable {P : Program} {w : World} {K : PySem.W.Frag} {mg : Str → Option Value} {base : Heap} {C : Addr}
theorem met_sd {m qual : Str} {st : Stmt} {f : Addr} {fd : FuncData} {N ps : List Str} {k : Nat} {R : List SK → PyData → Prop} (F : FnP K m qual st [] f fd) (hm : Meth K C m f) (S : FnScope N ps (defScope st))
    (hbd : ∀ (kV doc pm : Value) (an : Option Addr) (cdv ct : Value) (us : List Value), us.length = ps.length → bindArgs (PySem.W.fnOf m qual (defArgs st) (defBody st) (defScope st) .none kV doc pm an cdv ct) ⟨us, []⟩ = pure (ps.zip us))
    (hl : ∀ ks d, R ks d → ks.length = ps.length)
    (hb : ∀ (cdv : Value) (A : Around) (outer : List Env) (s : Shared) (H : Hp) (E : XK) (ks : List SK) (d : PyData), Room k (A.deeper (envOfC qual (defScope st) s.heap.objs.size f cdv)) → R ks d →
      PSs (cxOf CX0 P w K mg base N qual (defScope st) f cdv A outer s H E).nox (defBody st) (tS K C (ks ++ List.replicate (N.length - ks.length) .un) (fun _ => d = .none) (fun d' => d' = d))) : MetD P w K mg base C (k + 1) m R :=
  ⟨f, fd, ps, fn_sd F S hl hb, hm, F.bindsN hbd⟩
end
section
variable {X : Cx} {C : Addr} {G : List SK} {a b c e : Expr} {es : List Expr} {pos q1 q2 : Pos} {d d1 lay past : PyData} {ks : List SK} {R : List SK → PyData → Prop} {i p : Int}
theorem pd_neg (ha : PE X a (tD X.K C G (.int i))) : PE X (.UnaryOp .USub a pos) (tD X.K C G (.int (-i))) :=
  pe_to (pe_un un_neg ha) fun σ H Q ⟨Z, Hi, S, q⟩ => ⟨Z, Hi, S, fun v Hi1 H1 e1 h => ⟨i, dp_int h, q _ Hi1 H1 e1 (.int _)⟩⟩
/-- a slot's receiver (read, or one's own) -/
inductive IsR : Option SK → Int → PyData → PyData → Prop
  | r {p : Int} {lay past : PyData} : IsR (some (.rcv p lay past)) p lay past
  | m {x : Addr} {p : Int} {lay past : PyData} : IsR (some (.rcm x p lay past)) p lay past
theorem rcv_slot {K : PySem.W.Frag} {Z Hi H : Hp} {σ : L2.St} (S : SlotsOk K C Z Hi H σ G) {n : Nat} (h : IsR (G[n]?) p lay past) : ∃ x, σ[n]? = some (some (.ref x)) ∧ RcvAt K C Hi H x p lay past := by
  cases h' : G[n]? with
  | none => rw [h'] at h; cases h
  | some k =>
    rw [h'] at h
    cases h with
    | r => exact S.ok n _ h'
    | m => exact ⟨_, (S.ok n _ h').1, (S.ok n _ h').2.1⟩
theorem fld_of {K : PySem.W.Frag} {Hi H : Hp} {f : Str} {d : PyData} {σ : L2.St} {Q : VK} {Z : Hp} {x : Addr} (T : Rcls K C) (S : SlotsOk K C Z Hi H σ G) (na : NoAttr K C f) (r : RcvAt K C Hi H x p lay past) (hf : ∀ (fs : List (Str × V)) (vl vp : V), fs.lookup ("own_prime" : Str) = some (.int p) → fs.lookup ("own_laying" : Str) = some vl → fs.lookup ("own_past" : Str) = some vp → Dp K Hi vl lay → Dp K Hi vp past → ∃ v, fs.lookup f = some v ∧ Dp K Hi v d)
    (q : ∀ v Hi' H', Ext Hi H Hi' H' → Dp K Hi' v d → Q v H') : ∃ a C' dx fs v, V.ref x = .ref a ∧ H a = some (.ins C' dx fs) ∧ Cls K C' ∧ NoAttr K C' f ∧ fs.lookup f = some v ∧ Q v H := by
  obtain ⟨dx, fs, vl, vp, h1, h2, h3, h4, h5, h6, h7⟩ := r.ex
  obtain ⟨v, hv, hd⟩ := hf fs vl vp h2.1 h3 h4 h6 h7.dp
  exact ⟨x, C, dx, fs, v, rfl, h1, T.cls, na, hv, q v Hi H (Ext.refl S.sub) hd⟩
theorem pd_fp (n : Nat) {x : Str} (T : Rcls X.K C) (hk : IsR (G[n]?) p lay past) (hN : X.N[n]? = some x := by rfl) (hv : Vis X.env.scope x := by first | exact Or.inl rfl | exact Or.inr (Or.inl rfl) | exact Or.inr (Or.inr rfl)) (hd : (x == ("__debug__" : Str)) = false := by decide) (hcd : (x == ("__classdict__" : Str)) = false := by decide)
    (hb : attributeBase (.Name x q1) "own_prime" X.env (eval (.Name x q1) X.env) = eval (.Name x q1) X.env := by rfl) : PE X (.Attribute (.Name x q1) "own_prime" pos) (tD X.K C G (.int p)) :=
  pe_to (pe_fld (pe_var hN hv hd hcd) hb) fun σ H Q ⟨Z, Hi, S, q⟩ => by
    obtain ⟨x, h1, h2⟩ := rcv_slot S hk
    exact ⟨.ref x, h1, fld_of T S T.np h2 (fun fs vl vp a b c d e => ⟨_, a, .int _⟩) q⟩
theorem pd_fl (n : Nat) {x : Str} (T : Rcls X.K C) (hk : IsR (G[n]?) p lay past) (hN : X.N[n]? = some x := by rfl) (hv : Vis X.env.scope x := by first | exact Or.inl rfl | exact Or.inr (Or.inl rfl) | exact Or.inr (Or.inr rfl)) (hd : (x == ("__debug__" : Str)) = false := by decide) (hcd : (x == ("__classdict__" : Str)) = false := by decide)
    (hb : attributeBase (.Name x q1) "own_laying" X.env (eval (.Name x q1) X.env) = eval (.Name x q1) X.env := by rfl) : PE X (.Attribute (.Name x q1) "own_laying" pos) (tD X.K C G lay) :=
  pe_to (pe_fld (pe_var hN hv hd hcd) hb) fun σ H Q ⟨Z, Hi, S, q⟩ => by
    obtain ⟨x, h1, h2⟩ := rcv_slot S hk
    exact ⟨.ref x, h1, fld_of T S T.nl h2 (fun fs vl vp a b c d e => ⟨_, b, d⟩) q⟩
theorem pd_fh (n : Nat) {x : Str} (T : Rcls X.K C) (hk : IsR (G[n]?) p lay past) (hN : X.N[n]? = some x := by rfl) (hv : Vis X.env.scope x := by first | exact Or.inl rfl | exact Or.inr (Or.inl rfl) | exact Or.inr (Or.inr rfl)) (hd : (x == ("__debug__" : Str)) = false := by decide) (hcd : (x == ("__classdict__" : Str)) = false := by decide)
    (hb : attributeBase (.Name x q1) "own_past" X.env (eval (.Name x q1) X.env) = eval (.Name x q1) X.env := by rfl) : PE X (.Attribute (.Name x q1) "own_past" pos) (tD X.K C G past) :=
  pe_to (pe_fld (pe_var hN hv hd hcd) hb) fun σ H Q ⟨Z, Hi, S, q⟩ => by
    obtain ⟨x, h1, h2⟩ := rcv_slot S hk
    exact ⟨.ref x, h1, fld_of T S T.nh h2 (fun fs vl vp a b c d e => ⟨_, c, e⟩) q⟩
theorem rcv_call {K : PySem.W.Frag} {Hi H : Hp} {x : Addr} {m : Str} (r : RcvAt K C Hi H x p lay past) (hm : m ∉ flds) : ∃ a dx fs, V.ref x = .ref a ∧ H a = some (.ins C dx fs) ∧ fs.lookup m = none := by
  obtain ⟨dx, fs, vl, vp, h1, h2, h3, h4, h5, h6, h7⟩ := r.ex
  exact ⟨x, dx, fs, rfl, h1, h5 m hm⟩
/-- o.m(..), o a receiver at slot n -/
theorem pd_meth (n : Nat) {k j : Nat} {x m : Str} {pl : Sem Bool} (T : Rcls X.K C) (c : MetD X.prog X.w X.K X.mg X.base C k m R) (hr : Room j X.A) (hk : IsR (G[n]?) p lay past) (ha : PA X (e :: es) (tDA X.K C G ks)) (hR : R (.rcv p lay past :: ks) d) (hkj : k ≤ j := by decide) (hm : m ∉ flds := by decide)
    (hN : X.N[n]? = some x := by rfl) (hv : Vis X.env.scope x := by first | exact Or.inl rfl | exact Or.inr (Or.inl rfl) | exact Or.inr (Or.inr rfl)) (hd : (x == ("__debug__" : Str)) = false := by decide) (hcd : (x == ("__classdict__" : Str)) = false := by decide)
    (hst : starEach (e :: es) X.env = (false, eval e X.env) :: starEach es X.env := by rfl) (hpl : (backTo pos (starEach es X.env)).any (·.1) = false := by rfl)
    (ht : eval (.Call (.Attribute (.Name x q1) m q2) (e :: es) [] pos) X.env = (do
      let ov ← eval (.Name x q1) X.env
      standAt q2.atName
      let (f, first) ← holding [ov] (getMethod ov m pl)
      callWith pos f first (backTo pos (starEach (e :: es) X.env)) (backToKw pos (keywordEach [] X.env))) := by rfl) : PE X (.Call (.Attribute (.Name x q1) m q2) (e :: es) [] pos) (tD X.K C G d) :=
  let ⟨_, _, _, F, hM, b⟩ := c.ex
  pe_to (pe_meth (pe_var hN hv hd hcd) T.cls hM F (hr.mono hkj) b .nil pass0 ha hst hpl ht) fun σ H Q ⟨Z, Hi, S, q⟩ => by
    obtain ⟨y, h1, h2⟩ := rcv_slot S hk
    obtain ⟨a, dx, fs, z1, z2, z3⟩ := rcv_call h2 hm
    refine ⟨.ref y, h1, a, dx, fs, z1, z2, z3, Z, Hi, S, fun vs Hi1 H1 e1 hv => ?_⟩
    show SpD X.K C R (.ref y :: (vs ++ [])) H1 Q E0
    rw [List.append_nil]
    exact ⟨Hi1, .rcv p lay past :: ks, d, e1.sub, .cons ⟨y, rfl, h2.ext e1⟩ hv, hR, fun v Hi2 H2 e2 h => q v Hi2 H2 (e1.trans e2) h⟩
theorem pd_meth0 (n : Nat) {k j : Nat} {x m : Str} {pl : Sem Bool} (T : Rcls X.K C) (c : MetD X.prog X.w X.K X.mg X.base C k m R) (hr : Room j X.A) (hk : IsR (G[n]?) p lay past) (hR : R [.rcv p lay past] d) (hkj : k ≤ j := by decide) (hm : m ∉ flds := by decide)
    (hN : X.N[n]? = some x := by rfl) (hv : Vis X.env.scope x := by first | exact Or.inl rfl | exact Or.inr (Or.inl rfl) | exact Or.inr (Or.inr rfl)) (hd : (x == ("__debug__" : Str)) = false := by decide) (hcd : (x == ("__classdict__" : Str)) = false := by decide)
    (ht : eval (.Call (.Attribute (.Name x q1) m q2) [] [] pos) X.env = (do
      let ov ← eval (.Name x q1) X.env
      standAt q2.atName
      let (f, first) ← holding [ov] (getMethod ov m pl)
      callWith pos f first (backTo pos (starEach [] X.env)) (backToKw pos (keywordEach [] X.env))) := by rfl) : PE X (.Call (.Attribute (.Name x q1) m q2) [] [] pos) (tD X.K C G d) :=
  let ⟨_, _, _, F, hM, b⟩ := c.ex
  pe_to (pe_meth0 (pe_var hN hv hd hcd) T.cls hM F (hr.mono hkj) b .nil pass0 ht) fun σ H Q ⟨Z, Hi, S, q⟩ => by
    obtain ⟨y, h1, h2⟩ := rcv_slot S hk
    obtain ⟨a, dx, fs, z1, z2, z3⟩ := rcv_call h2 hm
    refine ⟨.ref y, h1, a, dx, fs, z1, z2, z3, ?_⟩
    show SpD X.K C R (.ref y :: ([] ++ [])) H Q E0
    exact ⟨Hi, [.rcv p lay past], d, S.sub, .cons ⟨y, rfl, h2⟩ .nil, hR, q⟩
/-- len(o) -/
theorem pd_lenR (n : Nat) {k j : Nat} {x : Str} {q : Pos} (hm : X.mg "len" = none) (c : MetD X.prog X.w X.K X.mg X.base C k "__len__" R) (hr : Room j X.A) (hk : IsR (G[n]?) p lay past) (hR : R [.rcv p lay past] (.int i)) (h0 : 0 ≤ i) (h1 : i < 2 ^ 62) (hkj : k + 1 ≤ j := by decide)
    (hN : X.N[n]? = some x := by rfl) (hv : Vis X.env.scope x := by first | exact Or.inl rfl | exact Or.inr (Or.inl rfl) | exact Or.inr (Or.inr rfl)) (hd : (x == ("__debug__" : Str)) = false := by decide) (hcd : (x == ("__classdict__" : Str)) = false := by decide)
    (hg : Gl X "len" := by rfl) (he : starEach [.Name x q1] X.env = (false, eval (.Name x q1) X.env) :: starEach [] X.env := by rfl) : PE X (.Call (.Name "len" q) [.Name x q1] [] pos) (tD X.K C G (.int i)) :=
  let ⟨_, _, _, F, hM, b⟩ := c.ex
  pe_to (pe_callB (call_lenI hM F (hr.mono hkj) b) hg hm PySem.boot_len (pa_cons (pe_var hN hv hd hcd) pa_nil he) (by decide) (by decide) he (by rfl)) fun σ H Q ⟨Z, Hi, S, q⟩ => by
    obtain ⟨y, g1, g2⟩ := rcv_slot S hk
    obtain ⟨dx, fs, vl, vp, z1, _⟩ := g2.ex
    refine ⟨.ref y, g1, y, dx, fs, rfl, z1, Hi, [.rcv p lay past], .int i, S.sub, .cons ⟨y, rfl, g2⟩ .nil, hR, fun v Hi2 H2 e2 h => ⟨i, dp_int h, h0, h1, q v Hi2 H2 e2 h⟩⟩
end
end NL
set_option maxHeartbeats 2000000
/-! Receivers: the methods that read. -/
namespace NL
open PySem PySem.Spec PyProof.Rows L2 StX
/-- a property, read -/
structure PropD (P : Program) (w : World) (K : PySem.W.Frag) (mg : Str → Option Value) (base : Heap) (C : Addr) (f fld : Str) : Prop where
  ex : ∃ (pa g : Addr) (fd : FuncData), PropOf K C f pa g ∧ FnOk P w K mg base CX0 1 g fd ["self"] (getSp C fld) ∧ Binds K fd ["self"] []
section
variable {X : Cx} {C : Addr} {G : List SK} {pos q1 q2 : Pos} {lay past : PyData} {p : Int}
theorem pd_propF (n : Nat) {k : Nat} {x f fld : Str} {d : PyData} (T : Rcls X.K C) (c : PropD X.prog X.w X.K X.mg X.base C f fld) (hr : Room k X.A) (hk : IsR (G[n]?) p lay past) (hf : ∀ (H : Hp) (fs : List (Str × V)) (vl vp : V), fs.lookup ("own_prime" : Str) = some (.int p) → fs.lookup ("own_laying" : Str) = some vl → Dp X.K H vl lay → ∃ v, fs.lookup fld = some v ∧ Dp X.K H v d) (h2 : 2 ≤ k := by decide)
    (hN : X.N[n]? = some x := by rfl) (hv : Vis X.env.scope x := by first | exact Or.inl rfl | exact Or.inr (Or.inl rfl) | exact Or.inr (Or.inr rfl)) (hd : (x == ("__debug__" : Str)) = false := by decide) (hcd : (x == ("__classdict__" : Str)) = false := by decide)
    (hb : attributeBase (.Name x q1) f X.env (eval (.Name x q1) X.env) = eval (.Name x q1) X.env := by rfl) : PE X (.Attribute (.Name x q1) f pos) (tD X.K C G d) :=
  let ⟨_, _, _, hp, F, b⟩ := c.ex
  pe_to (pe_prop (pe_var hN hv hd hcd) T.cls hp F (hr.mono h2) b .nil pass0 hb) fun σ H Q ⟨Z, Hi, S, q⟩ => by
    obtain ⟨y, g1, g2⟩ := rcv_slot S hk
    obtain ⟨dx, fs, vl, vp, h1, h2, h3, h4, h5, h6, h7⟩ := g2.ex
    obtain ⟨v, hv, hdv⟩ := hf Hi fs vl vp h2.1 h3 h6
    exact ⟨.ref y, g1, y, dx, fs, rfl, h1, y, dx, fs, v, rfl, h1, hv, q v Hi H (Ext.refl S.sub) hdv⟩
theorem pd_propP (n : Nat) {k : Nat} {x : Str} (T : Rcls X.K C) (c : PropD X.prog X.w X.K X.mg X.base C "prime" "own_prime") (hr : Room k X.A) (hk : IsR (G[n]?) p lay past) (h2 : 2 ≤ k := by decide)
    (hN : X.N[n]? = some x := by rfl) (hv : Vis X.env.scope x := by first | exact Or.inl rfl | exact Or.inr (Or.inl rfl) | exact Or.inr (Or.inr rfl)) (hd : (x == ("__debug__" : Str)) = false := by decide) (hcd : (x == ("__classdict__" : Str)) = false := by decide)
    (hb : attributeBase (.Name x q1) "prime" X.env (eval (.Name x q1) X.env) = eval (.Name x q1) X.env := by rfl) : PE X (.Attribute (.Name x q1) "prime" pos) (tD X.K C G (.int p)) :=
  pd_propF n T c hr hk (fun H fs vl vp h _ _ => ⟨_, h, .int _⟩) h2 hN hv hd hcd hb
theorem pd_propL (n : Nat) {k : Nat} {x : Str} (T : Rcls X.K C) (c : PropD X.prog X.w X.K X.mg X.base C "laying" "own_laying") (hr : Room k X.A) (hk : IsR (G[n]?) p lay past) (h2 : 2 ≤ k := by decide)
    (hN : X.N[n]? = some x := by rfl) (hv : Vis X.env.scope x := by first | exact Or.inl rfl | exact Or.inr (Or.inl rfl) | exact Or.inr (Or.inr rfl)) (hd : (x == ("__debug__" : Str)) = false := by decide) (hcd : (x == ("__classdict__" : Str)) = false := by decide)
    (hb : attributeBase (.Name x q1) "laying" X.env (eval (.Name x q1) X.env) = eval (.Name x q1) X.env := by rfl) : PE X (.Attribute (.Name x q1) "laying" pos) (tD X.K C G lay) :=
  pd_propF n T c hr hk (fun H fs vl vp _ h1 h2 => ⟨_, h1, h2⟩) h2 hN hv hd hcd hb
end
section
variable {P : Program} {w : World} {K : PySem.W.Frag} {mg : Str → Option Value} {base : Heap} {C f : Addr} {fd : FuncData}
def Live (k : SK) (p : Int) (lay : List Int) (mail : NLM.Mail) : Prop := NLM.LayOk lay ∧ NLM.MailOk p lay mail ∧ ∃ init s, k = .rcv p (dI lay) (dPast (init ++ [(s, mail)]))
theorem past_last (init : Past) (s : PyData) (mail : NLM.Mail) : atI ((init ++ [(s, mail)]).map encR) (-1) = some (encR (s, mail)) := by
  rw [List.map_append]
  exact atI_last _ _
def R_mail (ks : List SK) (d : PyData) : Prop := ∃ k p lay mail, Live k p lay mail ∧ ks = [k] ∧ d = dM mail
theorem sc_mail : FnScope ["self"] ["self"] (defScope (inC 3)) := ⟨rfl, rfl, rfl, by decide +kernel, rfl, by decide +kernel, by decide +kernel⟩
theorem ok_mail (T : Rcls K C) (F : FnP K "mail" "Receiver.mail" (inC 3) [] f fd) (hm : Meth K C "mail" f) : MetD P w K mg base C 1 "mail" R_mail := by
  refine met_sd F hm sc_mail (fun _ _ _ _ _ _ us hl => match us, hl with | [_], _ => rfl) (fun ks d ⟨_, _, _, _, _, h, _⟩ => by rw [h] <;> rfl) fun cdv A outer s H E ks d hr ⟨k, p, lay, mail, ⟨hl, hM, init, st, hk⟩, hks, hd⟩ => ?_
  subst hks hd hk
  exact sd_last (sd_ret (pd_ixT (ds := [st, dM mail]) (pd_ixT (pd_fh 0 T .r) (pd_neg pd_int) (past_last init st mail)) pd_int (atI_nat (j := 1) rfl)) rfl)
def R_here (ks : List SK) (d : PyData) : Prop := ∃ k p lay mail, Live k p lay mail ∧ ks = [k] ∧ d = dL (mail.map (·.1))
theorem sc_here : FnScope ["self", "pair"] ["self"] (defScope (inC 4)) := ⟨rfl, rfl, rfl, by decide +kernel, rfl, by decide +kernel, by decide +kernel⟩
theorem ok_here (T : Rcls K C) (c : MetD P w K mg base C 1 "mail" R_mail) (F : FnP K "here" "Receiver.here" (inC 4) [] f fd) (hm : Meth K C "here" f) : MetD P w K mg base C 2 "here" R_here := by
  refine met_sd F hm sc_here (fun _ _ _ _ _ _ us hl => match us, hl with | [_], _ => rfl) (fun ks d ⟨_, _, _, _, _, h, _⟩ => by rw [h] <;> rfl) fun cdv A outer s H E ks d hr ⟨k, p, lay, mail, L, hks, hd⟩ => ?_
  obtain ⟨hl, hM, init, st, hk⟩ := id L
  subst hks hd hk
  have h8 := hl.l8
  have hsh := hM.short
  exact sd_last (sd_ret (pd_is (pd_lc0 (own := [("pair", 1)]) (pt := .nm 1) mail encM (fun m => .int m.1) (gb := fun m => [.rcv p (dI lay) (dPast (init ++ [(st, mail)])), .dat (encM m)]) rfl sc_here.nd (di_tup (pd_meth0 0 T c hr .r ⟨_, p, lay, mail, L, rfl, rfl⟩)) (blkOk_by rfl) (fun _ _ _ _ _ => pg_nm 1 sc_here.nd) (lt_size (by omega)) ins1 (fun x hx => .nm)
    (fun m hm s H C' cl fp => pd_ixT (ds := [.int m.1, dI m.2]) (pd_var 1 rfl) pd_int (atI_nat (j := 0) rfl))) (by unfold dL; rw [List.map_map]; rfl)) rfl)
def Rk (lay : List Int) (j : Nat) : Int := (0 :: NLM.stairIn lay).getD j 0
theorem stair_get {lay : List Int} {j : Nat} (h1 : 1 ≤ j) (h2 : j ≤ lay.length) : atI ((NLM.stairIn lay).map PyData.int) ((j : Int) - 1) = some (.int (Rk lay j)) := by
  obtain ⟨i, rfl⟩ : ∃ i, j = i + 1 := ⟨j - 1, by omega⟩
  rw [show ((i + 1 : Nat) : Int) - 1 = (i : Int) by omega]
  have hl : i < (NLM.stairIn lay).length := by
    rw [NLM.stairIn_eq, NLM.stairFrom_len]
    omega
  refine atI_nat ?_
  rw [List.getElem?_map, List.getElem?_eq_getElem hl]
  unfold Rk
  rw [List.getD_cons_succ, List.getD_eq_getElem?_getD, List.getElem?_eq_getElem hl]
  rfl
def R_known_by (ks : List SK) (d : PyData) : Prop := ∃ k p lay mail, Live k p lay mail ∧ ∃ j : Nat, j ≤ lay.length ∧ ks = [k, .dat (.int (j : Int))] ∧ d = .int (Rk lay j)
theorem sc_known_by : FnScope ["self", "many"] ["self", "many"] (defScope (inC 7)) := ⟨rfl, rfl, rfl, by decide +kernel, rfl, by decide +kernel, by decide +kernel⟩
theorem ok_known_by (T : Rcls K C) (c : CalD P w K mg base C 1 "profile_in" R_profile_in) (F : FnP K "known_by" "Receiver.known_by" (inC 7) [] f fd) (hm : Meth K C "known_by" f) : MetD P w K mg base C 2 "known_by" R_known_by := by
  refine met_sd F hm sc_known_by (fun _ _ _ _ _ _ us hl => match us, hl with | [_, _], _ => rfl) (fun ks d ⟨_, _, _, _, _, _, _, h, _⟩ => by rw [h] <;> rfl) fun cdv A outer s H E ks d hr ⟨k, p, lay, mail, L, j, hj, hks, hd⟩ => ?_
  obtain ⟨hl, hM, init, st, hk⟩ := id L
  subst hks hd hk
  refine sd_last (sd_ret (pd_if (k1 := decide (0 < (j : Int))) (pt_gt (pd_var 1 rfl) pd_int) (fun h => pd_ixL (pd_call c hr (da_cons (pd_fl 0 T .r) da_nil) ⟨lay, hl, rfl, rfl⟩) (pd_sub (pd_var 1 rfl) pd_int) (stair_get (by have := of_decide_eq_true h; omega) hj)) (fun h => ?_)) rfl)
  have e : j = 0 := by
    have := of_decide_eq_false h
    omega
  subst e
  exact pd_int
def R_known (ks : List SK) (d : PyData) : Prop := ∃ k p lay mail, Live k p lay mail ∧ ks = [k] ∧ d = .int (Rk lay mail.length)
theorem sc_known : FnScope ["self"] ["self"] (defScope (inC 8)) := ⟨rfl, rfl, rfl, by decide +kernel, rfl, by decide +kernel, by decide +kernel⟩
theorem ok_known (T0 : Free mg) (T : Rcls K C) (cm : MetD P w K mg base C 1 "mail" R_mail) (c : MetD P w K mg base C 2 "known_by" R_known_by) (F : FnP K "known" "Receiver.known" (inC 8) [] f fd) (hm : Meth K C "known" f) : MetD P w K mg base C 3 "known" R_known := by
  refine met_sd F hm sc_known (fun _ _ _ _ _ _ us hl => match us, hl with | [_], _ => rfl) (fun ks d ⟨_, _, _, _, _, h, _⟩ => by rw [h] <;> rfl) fun cdv A outer s H E ks d hr ⟨k, p, lay, mail, L, hks, hd⟩ => ?_
  obtain ⟨hl, hM, init, st, hk⟩ := id L
  subst hks hd hk
  refine sd_last (sd_ret (pd_meth 0 T c hr .r (da_cons (pd_lenT T0.len (pd_meth0 0 T cm hr .r ⟨_, p, lay, mail, L, rfl, rfl⟩)) da_nil) ⟨_, p, lay, mail, L, mail.length, hM.short, by rw [map_len], rfl⟩) rfl)
def Mk2 (lay : List Int) (j : Nat) : Int := if j < lay.length then Rk lay (j + 1) - Rk lay j else 0
def R_more (ks : List SK) (d : PyData) : Prop := ∃ k p lay mail, Live k p lay mail ∧ ks = [k] ∧ d = .int (Mk2 lay mail.length)
theorem sc_more : FnScope ["self", "many"] ["self"] (defScope (inC 9)) := ⟨rfl, rfl, rfl, by decide +kernel, rfl, by decide +kernel, by decide +kernel⟩
theorem ok_more (T0 : Free mg) (T : Rcls K C) (cm : MetD P w K mg base C 1 "mail" R_mail) (c : MetD P w K mg base C 2 "known_by" R_known_by) (F : FnP K "more" "Receiver.more" (inC 9) [] f fd) (hm : Meth K C "more" f) : MetD P w K mg base C 3 "more" R_more := by
  refine met_sd F hm sc_more (fun _ _ _ _ _ _ us hl => match us, hl with | [_], _ => rfl) (fun ks d ⟨_, _, _, _, _, h, _⟩ => by rw [h] <;> rfl) fun cdv A outer s H E ks d hr ⟨k, p, lay, mail, L, hks, hd⟩ => ?_
  obtain ⟨hl, hM, init, st, hk⟩ := id L
  subst hks hd hk
  refine sd_seq (sd_set 1 sc_more.nd (d := .int (mail.length : Int)) (pd_is (pd_lenT T0.len (pd_meth0 0 T cm hr .r ⟨_, p, lay, mail, L, rfl, rfl⟩)) (by rw [map_len]))) ?_
  refine sd_last (sd_ret (pd_if (k1 := decide ((mail.length : Int) < (lay.length : Int))) (pd_isT (pt_lt (pd_var 1 rfl) (pd_lenT T0.len (pd_fl 0 T .r))) (by rw [map_len])) (fun h => ?_) (fun h => ?_)) rfl)
  · have h' : mail.length < lay.length := by
      have := of_decide_eq_true h
      omega
    refine pd_is (pd_sub (pd_meth 0 T c hr .r (da_cons (pd_add (pd_var 1 rfl) pd_int) da_nil) ⟨_, p, lay, mail, L, mail.length + 1, h', rfl, rfl⟩) (pd_meth 0 T c hr .r (da_cons (pd_var 1 rfl) da_nil) ⟨_, p, lay, mail, L, mail.length, hM.short, rfl, rfl⟩)) ?_
    unfold Mk2
    rw [if_pos h']
  · have h' : ¬ mail.length < lay.length := by
      have := of_decide_eq_false h
      omega
    unfold Mk2
    rw [if_neg h']
    exact pd_int
def R_suspectsM (ks : List SK) (d : PyData) : Prop := ∃ k p lay mail, Live k p lay mail ∧ ks = [k] ∧ d = dI (NLM.suspectsIn p lay mail)
theorem sc_suspectsM : FnScope ["self"] ["self"] (defScope (inC 11)) := ⟨rfl, rfl, rfl, by decide +kernel, rfl, by decide +kernel, by decide +kernel⟩
theorem ok_suspectsM (T0 : Free mg) (T : Rcls K C) (cm : MetD P w K mg base C 1 "mail" R_mail) (c : CalD P w K mg base C 6 "suspects_in" R_suspects_in) (F : FnP K "suspects" "Receiver.suspects" (inC 11) [] f fd) (hm : Meth K C "suspects" f) : MetD P w K mg base C 7 "suspects" R_suspectsM := by
  refine met_sd F hm sc_suspectsM (fun _ _ _ _ _ _ us hl => match us, hl with | [_], _ => rfl) (fun ks d ⟨_, _, _, _, _, h, _⟩ => by rw [h] <;> rfl) fun cdv A outer s H E ks d hr ⟨k, p, lay, mail, L, hks, hd⟩ => ?_
  obtain ⟨hl, hM, init, st, hk⟩ := id L
  subst hks hd hk
  exact sd_last (sd_ret (pd_tupleL T0.tuple (pd_call c hr (da_cons (pd_fp 0 T .r) (da_cons (pd_fl 0 T .r) (da_cons (pd_meth0 0 T cm hr .r ⟨_, p, lay, mail, L, rfl, rfl⟩) da_nil))) ⟨p, lay, mail, hl, hM, rfl, rfl⟩)) rfl)
def R_len (ks : List SK) (d : PyData) : Prop := ∃ (p : Int) (lay : PyData) (ps : Past), ps ≠ [] ∧ ks = [.rcv p lay (dPast ps)] ∧ d = .int ((ps.length : Int) - 1)
theorem sc_len : FnScope ["self"] ["self"] (defScope (inC 15)) := ⟨rfl, rfl, rfl, by decide +kernel, rfl, by decide +kernel, by decide +kernel⟩
theorem ok_len (T0 : Free mg) (T : Rcls K C) (F : FnP K "__len__" "Receiver.__len__" (inC 15) [] f fd) (hm : Meth K C "__len__" f) : MetD P w K mg base C 1 "__len__" R_len := by
  refine met_sd F hm sc_len (fun _ _ _ _ _ _ us hl => match us, hl with | [_], _ => rfl) (fun ks d ⟨_, _, _, _, h, _⟩ => by rw [h] <;> rfl) fun cdv A outer s H E ks d hr ⟨p, lay, ps, hne, hks, hd⟩ => ?_
  subst hks hd
  refine sd_last (sd_ret (pd_is (pd_lenT T0.len (pd_slT (pd_fh 0 T .r) (do_some pd_int) do_none)) ?_) rfl)
  rw [show (1 : Int) = ((1 : Nat) : Int) from rfl, cutD_from, List.length_drop, map_len]
  congr 1
  have : 1 ≤ ps.length := by
    cases ps with
    | nil => exact absurd rfl hne
    | cons _ _ => exact Nat.le_add_left _ _
  omega
end
end NL
set_option maxHeartbeats 2000000
/-! Receivers: read, what is heard. -/
namespace NL
open PySem PySem.Spec PyProof.Rows L2 StX
theorem no_takes {X : Cx} : Takes X (fun _ _ _ _ => False) := fun _ _ x => by
  obtain ⟨_, _, _, _, _, _, _, _, _, _, _, _, _, _, _, _, z⟩ := x
  exact z.elim
/-- what is asked of the class Unsound at U (its __init__ at fI, its base at nb) -/
structure Ucls (K : PySem.W.Frag) (mg : Str → Option Value) (U fI nb : Addr) : Prop where
  gU : mg "Unsound" = some (.ref U)
  oex : OexC K U
  iC : PySem.W.findIn K (.ref U) "__init__" = some (some (.ref fI))
  tI : PySem.W.typeIn K (.ref fI) = some (.type "function")
  nd : PySem.W.findIn K (.ref U) "need" = some none
  xf : XfC K U
  sub : PySem.W.exmOne K (.ref U) (.ref U) = some true
  gN : mg "NestError" = some (.ref nb)
  rN : PySem.W.readsIn K nb (.type "type") = true
  aN : PySem.W.specialIn K (.ref nb) "__getattribute__" = some (some (.builtin "type.__getattribute__"))
  fN : PySem.W.findCls K (.ref nb) (.type "type") "__init__" = some (.val (.builtin "ValueError.__init__"))
section
variable {P : Program} {w : World} {K : PySem.W.Frag} {mg : Str → Option Value} {base : Heap} {C U fI nb f : Addr} {fd : FuncData}
def spU (K : PySem.W.Frag) (U : Addr) : Sp := fun vs H Q _ => ∃ (a : Addr) (n : Int), vs = [.ref a, .int n] ∧ H a = some (exo a U none) ∧ ∀ dx, H dx = none → dx ≠ a → Q .non (upd (upd H dx (exd dx [("need", .int n)])) a (exo a U (some dx)))
theorem sc_U : FnScope ["self", "need"] ["self", "need"] (defScope (inU 0)) := ⟨rfl, rfl, rfl, by decide +kernel, rfl, by decide +kernel, by decide +kernel⟩
theorem ok_U (T : Ucls K mg U fI nb) (F : FnP K "__init__" "Unsound.__init__" (inU 0) [] f fd) : FnOk P w K mg base CX0 1 f fd ["self", "need"] (spU K U) := by
  refine F.ok sc_U (fun vs H Q E ⟨_, _, h, _⟩ => by rw [h] <;> rfl) fun cdv A outer s H vs Q E hr h => ?_
  obtain ⟨a, n, rfl, ha, q⟩ := h
  refine ⟨_, pss_cons (ps_expr (pe_binit (b := nb) (mc := .type "type") rfl T.gN T.rN T.aN T.fN (pa_cons (pe_var (i := 0) rfl (.inl rfl)) (pa_cons pe_str pa_nil)))) (pss_one (ps_ost (pe_var (i := 0) rfl (.inl rfl)) (pe_var (i := 1) rfl (.inl rfl)))), ?_⟩
  refine ⟨.ref a, rfl, ?_⟩
  refine ⟨a, U, _, rfl, by show 1 ≤ 1000; decide, T.oex, ha, ?_⟩
  exact ⟨.int n, rfl, .ref a, rfl, a, U, rfl, T.oex, T.nd, .inl ⟨ha, fun dx h1 h2 => q dx h1 h2⟩⟩
theorem bd_U (F : FnP K "__init__" "Unsound.__init__" (inU 0) [] f fd) : Binds K fd ["self", "need"] [] := F.bindsN fun _ _ _ _ _ _ us hl => match us, hl with | [_, _], _ => rfl
end
/-- a statement list that ends by Unsound(n) -/
def tR (K : PySem.W.Frag) (C U : Addr) (G : List SK) (n : Int) (W : WX) : TS := fun D σ H => ∃ Z Hi, SlotsOk K C Z Hi H σ G ∧ ∀ σ' dd Hi' H', Ext Hi H Hi' H' → H' dd = some (.xd [("need", .int n)]) → W (.ref U) (some dd) σ' H'
section
variable {X : Cx} {C U fI nb : Addr} {G : List SK} {e : Expr} {es : List Expr} {sts : List Stmt} {pos q q2 : Pos} {d : PyData} {n : Int} {W : WX} {fdI : FuncData}
theorem rx_set (i : Nat) {x : Str} (hN : X.N.Nodup) (he : PE X e (tD X.K C G d)) (hr : PSs X sts (tR X.K C U (G.set i (.dat d)) n W)) (hi : X.N[i]? = some x := by rfl) (hx : Loc X.env.scope x := by first | exact Or.inl rfl | exact Or.inr rfl) (hs : swapsWith e (some (.Name x q)) pos.line X.env = pure false := by rfl)
    (hf : X.fn x = true ∨ X.env.scope.names.lookup x = some .local := by first | exact .inl rfl | exact .inr rfl) : PSs X (.Assign [.Name x q] e pos :: sts) (tR X.K C U G n W) :=
  pss_to (pss_cons (ps_set hN hi hx he hs hf) hr) fun D σ H ⟨Z, Hi, S, k⟩ => ⟨Z, Hi, S, fun v Hi1 H1 e1 h1 => ⟨Z, Hi1, (S.ext e1).setD h1, fun σ' dd Hi' H' e2 h => k σ' dd Hi' H' (e1.trans e2) h⟩⟩
theorem rx_if {t : Expr} {body els : List Stmt} (ht : PT X t (tDT X.K C G true)) (hb : PSs X body (tR X.K C U G n W)) : PSs X (.If t body els pos :: sts) (tR X.K C U G n W) :=
  pss_to (pss_cons (ps_if ht hb pss_never) pss_never) fun D σ H ⟨Z, Hi, S, k⟩ => ⟨Z, Hi, S, fun Hi1 H1 e1 => ⟨Z, Hi1, S.ext e1, fun σ' dd Hi' H' e2 h => k σ' dd Hi' H' (e1.trans e2) h⟩⟩
theorem rx_raise {k j : Nat} (T : Ucls X.K X.mg U fI nb) (F : FnOk X.prog X.w X.K X.mg X.base CX0 k fI fdI ["self", "need"] (spU X.K U)) (b : Binds X.K fdI ["self", "need"] []) (hr : Room j X.A) (hc : X.calm = true) (tk : Takes X W) (he : PE X e (tD X.K C G (.int n))) (hkj : k + 1 ≤ j := by decide)
    (hg : Gl X "Unsound" := by rfl) (hst : starEach [e] X.env = (false, eval e X.env) :: starEach [] X.env := by rfl) (hpl : (backTo q2 (starEach [] X.env)).any (·.1) = false := by rfl) : PSs X [.Raise (some (.Call (.Name "Unsound" q) [e] [] q2)) none pos] (tR X.K C U G n W) := by
  refine pss_to (pss_one (ps_raise hc tk (pmk_oex T.oex T.iC T.tI F (hr.mono hkj) b .nil pass0 hg T.gU (pa_cons he pa_nil hst) (by decide) hst hpl))) fun D σ H ⟨Z, Hi, S, k⟩ => ?_
  refine ⟨Z, Hi, S, fun v Hi1 H1 e1 hv => ⟨by show 1 ≤ 1000; decide, fun a ha => ?_⟩⟩
  obtain rfl := dp_int hv
  refine ⟨a, n, rfl, upd_same, fun dx hx hne => ⟨rfl, dx, [("need", .int n)], upd_same, ?_, ?_, ?_⟩⟩
  · rw [upd_ne hne, upd_same]
  · rw [upd_ne hne] at hx
    exact hx
  · rw [upd_ne hne] at hx
    have hs : Same H1 (upd (del (upd (upd (upd H1 a (exo a U none)) dx (exd dx [("need", .int n)])) a (exo a U (some dx))) a) dx (.xd [("need", .int n)])) := fun b o z => by
      rw [upd_ne (ne_of_none z hx), del_ne (ne_of_none z ha), upd_ne (ne_of_none z ha), upd_ne (ne_of_none z hx), upd_ne (ne_of_none z ha)]
      exact z
    exact k σ dx Hi1 _ (e1.trans (Ext.grow e1.sub hs)) upd_same
end
section
variable {P : Program} {w : World} {K : PySem.W.Frag} {mg : Str → Option Value} {base : Heap} {C U fI nb f : Addr} {fd fdI : FuncData}
def spRead (K : PySem.W.Frag) (C U : Addr) : Sp := fun vs H Q E => ∃ Hi k p lay mail, Same Hi H ∧ ArgsOk K C Hi H vs [k] ∧ Live k p lay mail ∧ (NLM.unfitIn p lay mail = [] → ∀ v Hi' H', Ext Hi H Hi' H' → Dp K Hi' v (dI (NLM.readIn p lay mail)) → Q v H') ∧
  (∀ n rest, NLM.unfitIn p lay mail = n :: rest → ∀ dd Hi' H', Ext Hi H Hi' H' → H' dd = some (.xd [("need", .int n)]) → E (.ref U) (some dd) H')
theorem sc_read : FnScope ["self", "unfit"] ["self"] (defScope (inC 10)) := ⟨rfl, rfl, rfl, by decide +kernel, rfl, by decide +kernel, by decide +kernel⟩
theorem ok_read (T : Rcls K C) (TU : Ucls K mg U fI nb) (FU : FnOk P w K mg base CX0 1 fI fdI ["self", "need"] (spU K U)) (bU : Binds K fdI ["self", "need"] []) (cm : MetD P w K mg base C 1 "mail" R_mail) (cu : CalD P w K mg base C 5 "unfit_in" R_unfit_in) (c : CalD P w K mg base C 4 "read_in" R_read_in) (F : FnP K "read" "Receiver.read" (inC 10) [] f fd) :
    FnOk P w K mg base (L2.CX P w) 6 f fd ["self"] (spRead K C U) := by
  refine F.ok sc_read (fun vs H Q E ⟨_, _, _, _, _, _, ha, _⟩ => ha.len) fun cdv A outer s H vs Q E hr h => ?_
  obtain ⟨Hi, k, p, lay, mail, s0, ha, L, q1, q2⟩ := h
  obtain ⟨hl, hM, init, st, rfl⟩ := id L
  cases hu : NLM.unfitIn p lay mail with
  | nil =>
    have q1 := q1 hu
    have key : ∀ X : Cx, X = cxOf (L2.CX P w) P w K mg base ["self", "unfit"] "Receiver.read" (defScope (inC 10)) f cdv A outer s H E → PSs X (defBody (inC 10)) (tS K C ([.rcv p (dI lay) (dPast (init ++ [(st, mail)]))] ++ List.replicate (["self", "unfit"].length - 1) .un) (fun _ => False) (fun d => d = dI (NLM.readIn p lay mail))) := by
      intro X hX
      subst hX
      refine sd_seq (sd_set 1 sc_read.nd (pd_call cu hr (da_cons (pd_fp 0 T .r) (da_cons (pd_fl 0 T .r) (da_cons (pd_meth0 0 T cm hr .r ⟨_, p, lay, mail, L, rfl, rfl⟩) da_nil))) ⟨p, lay, mail, hl, hM, rfl, rfl⟩)) ?_
      refine sd_seq (sd_no (pd_isT (pt_ne hr (pd_var 1 rfl) (pd_lst ds_nil (Nat.zero_le _)) sh_ints.1 sh_nil) (by rw [dL_nil, hu]; rfl))) ?_
      exact sd_last (sd_ret (pd_call c hr (da_cons (pd_fp 0 T .r) (da_cons (pd_fl 0 T .r) (da_cons (pd_meth0 0 T cm hr .r ⟨_, p, lay, mail, L, rfl, rfl⟩) da_nil))) ⟨p, lay, mail, hl, hM, rfl, rfl⟩) rfl)
    refine ⟨_, key _ rfl, H, Hi, Hi, ⟨Same.refl _, Same.refl _, fun b o z => .inl z⟩, slots_start s0 ha, fun G' σ' Hi' H' n _ f' S' => n.elim, fun d' v Hi' H' e f' s' h' => ?_⟩
    have e : d' = dI (NLM.readIn p lay mail) := e
    rw [e] at h'
    exact q1 v Hi' H' ⟨f'.z, f'.up, s', f'.new⟩ h'
  | cons n rest =>
    have q2 := q2 n rest hu
    have key : ∀ X : Cx, X = cxOf (L2.CX P w) P w K mg base ["self", "unfit"] "Receiver.read" (defScope (inC 10)) f cdv A outer s H E → PSs X (defBody (inC 10)) (tR K C U ([.rcv p (dI lay) (dPast (init ++ [(st, mail)]))] ++ List.replicate (["self", "unfit"].length - 1) .un) n (fun cls d _ H => E cls d H)) := by
      intro X hX
      subst hX
      refine rx_set 1 sc_read.nd (pd_call cu hr (da_cons (pd_fp 0 T .r) (da_cons (pd_fl 0 T .r) (da_cons (pd_meth0 0 T cm hr .r ⟨_, p, lay, mail, L, rfl, rfl⟩) da_nil))) ⟨p, lay, mail, hl, hM, rfl, rfl⟩) ?_
      refine rx_if (pd_isT (pt_ne hr (pd_var 1 rfl) (pd_lst ds_nil (Nat.zero_le _)) sh_ints.1 sh_nil) (by rw [dL_nil, hu]; rfl)) ?_
      exact rx_raise TU FU bU hr rfl (takes_of rfl rfl rfl rfl) (pd_ixL (pd_var 1 rfl) pd_int (by rw [hu]; exact atI_nat (j := 0) rfl))
    refine ⟨_, key _ rfl, H, Hi, slots_start s0 ha, fun σ' dd Hi' H' e h => q2 dd Hi' H' e h⟩
end
end NL
set_option maxHeartbeats 2000000
/-! What is heard of a receiver. -/
namespace NL
open PySem PySem.Spec PyProof.Rows L2 StX
def tMeth0S (C : Addr) (m : Str) (sp : Sp) (E : L2.St → XK) (ta : TE) : TE := fun σ H Q => ta σ H fun x H1 => ∃ a dx fs, x = .ref a ∧ H1 a = some (.ins C dx fs) ∧ fs.lookup m = none ∧ sp [x] H1 Q (E σ)
theorem pe_meth0S {X : Cx} {CX : CXT} {k : Nat} {f C : Addr} {fd : FuncData} {ps : List Str} {sp : Sp} {E : L2.St → XK} {m : Str} {pos apos : Pos} {o : Expr} {ta : TE} {pl : Sem Bool} (he : PE X o ta) (c : Cls X.K C) (hm : Meth X.K C m f) (F : FnOk X.prog X.w X.K X.mg X.base CX k f fd ps sp) (hr : Room k X.A) (hb : Binds X.K fd ps []) (hx : ∀ σ, PassesAt CX X σ (E σ))
    (ht : eval (.Call (.Attribute o m apos) [] [] pos) X.env = (do
      let ov ← eval o X.env
      standAt apos.atName
      let (f, first) ← holding [ov] (getMethod ov m pl)
      callWith pos f first (backTo pos (starEach [] X.env)) (backToKw pos (keywordEach [] X.env))) := by rfl) :
    PE X (.Call (.Attribute o m apos) [] [] pos) (tMeth0S C m sp E ta) := by
  refine ⟨fun pins s σ H Q I h => ?_⟩
  refine PySem.W.methodCall_KW (pl := pl) (thn (he.run pins s σ H _ I h) fun u s1 ⟨x, H1, I1, rx, a, dx, fs, ex, ea, l, q⟩ => ?_) ht
  subst ex
  obtain rfl : u = Value.ref a := rx
  refine getmeth_ok I1 ea c hm l ?_
  exact PySem.W.callWith_K0 (first := [.ref a]) I1.kIn hm.kp (run_fnS (us := [.ref a]) (vs := [.ref a]) F hr hb (hx σ) I1 (.cons rfl .nil) q)
def heardD (p : Int) (lay : List Int) (mail : NLM.Mail) : PyData := match NLM.unfitIn p lay mail with
  | [] => .list [dI (NLM.readIn p lay mail)]
  | n :: _ => .int n
section
variable {P : Program} {w : World} {K : PySem.W.Frag} {mg : Str → Option Value} {base : Heap} {C U fI nb f fR : Addr} {fd fdR : FuncData}
def R_heard (ks : List SK) (d : PyData) : Prop := ∃ k p lay mail, Live k p lay mail ∧ ks = [k] ∧ d = heardD p lay mail
theorem sc_heard : FnScope ["_law_live", "error"] ["_law_live"] (defScope sHeard) := ⟨rfl, rfl, rfl, by decide +kernel, rfl, by decide +kernel, by decide +kernel⟩
theorem ok_heard (T : Rcls K C) (TU : Ucls K mg U fI nb) (FR : FnOk P w K mg base (L2.CX P w) 6 fR fdR ["self"] (spRead K C U)) (mR : Meth K C "read" fR) (bR : Binds K fdR ["self"] []) (F : FnP K "_law_heard" "_law_heard" sHeard [] f fd) (hm : mg "_law_heard" = some (.ref f)) : CalD P w K mg base C 7 "_law_heard" R_heard := by
  refine cal_sd F hm sc_heard (fun _ _ _ _ _ _ us hl => match us, hl with | [_], _ => rfl) (fun ks d ⟨_, _, _, _, _, h, _⟩ => by rw [h] <;> rfl) fun cdv A outer s H E ks d hr ⟨k, p, lay, mail, L, hks, hd⟩ => ?_
  obtain ⟨hl, hM, init, st, hk⟩ := id L
  subst hks hd hk
  refine sd_last (ps_to (ps_try_as (i := 1) (c := .ref U) (Wout := fun _ _ _ _ => False) rfl rfl sc_heard.nd rfl rfl ⟨rfl, by decide, .inl TU.gU⟩ no_takes
    (fun W pn xe tk po => pss_one (ps_ret (pe_lst (pa_cons (pe_meth0S (CX := L2.CX P w) (pe_var (i := 0) rfl (.inl rfl)) T.cls mR FR hr bR (fun σ => passAt tk σ)) pa_nil))))
    (fun a oe cls d pn hz hdd => pss_one (ps_ret (pe_xf TU.xf TU.nd hz hdd (pe_var (i := 1) rfl (.inl rfl)))))) ?_)
  rintro D σ H' ⟨Z, Hi0, Hi, fr, S, r1, r2⟩
  obtain ⟨x, g1, g2⟩ := S.ok 0 _ rfl
  obtain ⟨dx, fs, vl, vp, z1, z2, z3, z4, z5, z6, z7⟩ := id g2.ex
  refine ⟨.ref x, g1, x, dx, fs, rfl, z1, z5 _ (by decide), ?_⟩
  refine ⟨Hi, .rcv p (dI lay) (dPast (init ++ [(st, mail)])), p, lay, mail, S.sub, .cons ⟨x, rfl, g2⟩ .nil, L, fun hu v Hi1 H1 e1 hv => ⟨by show 1 ≤ sizeLine; decide, fun q hq => ?_⟩, fun n rest hu dd Hi1 H1 e1 hdd => ?_⟩
  · have e : heardD p lay mail = .list [dI (NLM.readIn p lay mail)] := by
      unfold heardD
      rw [hu]
    have E1 := e1.trans (Ext.one (o := .lst [v]) e1.sub hq)
    exact r2 (heardD p lay mail) _ _ _ rfl (fr.ext E1) E1.sub (by rw [e]; exact new_lst e1.sub (.cons hv .nil) hq)
  · have e : heardD p lay mail = .int n := by
      unfold heardD
      rw [hu]
    refine ⟨true, TU.sub, fun _ a ha => ?_, fun z => nomatch z⟩
    refine ⟨.ref a, ?_, rfl, rfl, dd, _, .int n, rfl, hdd, rfl, ?_⟩
    · have hlen : 1 < σ.length := by
        rw [S.len]
        exact Nat.le_refl 2
      show (σ.set 1 (some (.ref a)))[1]? = _
      rw [List.getElem?_set_self hlen]
    · exact r2 (heardD p lay mail) _ Hi1 H1 rfl (fr.ext e1) e1.sub (by rw [e]; exact .int n)
end
end NL
set_option maxHeartbeats 2000000
/-! Defs that show containers: promised where no repr is under way. -/
namespace NL
open PySem PySem.Spec PyProof.Rows L2 StX
/-- as a def's promise, where no repr is under way -/
structure FnG (P : Program) (w : World) (K : PySem.W.Frag) (mg : Str → Option Value) (base : Heap) (k : Nat) (f : Addr) (fd : FuncData) (ps : List Str) (sp : Sp) : Prop where
  len : ∀ vs H Q E, sp vs H Q E → vs.length = ps.length
  run : ∀ (A : Around) (outer : List Env) (s : Shared) (H : Hp) (args : Args) (us : List Value) (vs : List V) (Q : VK) (E : XK), A.guards = some [] → Room k A → Env0 P w K mg base A outer s H → BindsTo s fd args (ps.zip us) → Vals vs us → sp vs H Q E →
    codeAny (model P w) A (.call (.ref f) args) (CR CX0 outer P w H s Q E) s
section
variable {P : Program} {w : World} {K : PySem.W.Frag} {mg : Str → Option Value} {base : Heap} {C : Addr}
theorem FnG.of {k : Nat} {f : Addr} {fd : FuncData} {ps : List Str} {sp : Sp} (F : FnOk P w K mg base CX0 k f fd ps sp) : FnG P w K mg base k f fd ps sp := ⟨F.len, fun A outer s H args us vs Q E _ => F.run A outer s H args us vs Q E⟩
theorem fn_g {x qual : Str} {params : Arguments} {body : List Stmt} {scope : Scope} {dvs : List V} {kws : List (Str × V)} {f : Addr} {fd : FuncData} {N ps : List Str} {k : Nat} {sp : Sp} (F : FunD K x qual params body scope dvs kws f fd) (S : FnScope N ps scope) (len : ∀ vs H Q E, sp vs H Q E → vs.length = ps.length)
    (hbody : ∀ (cdv : Value) (A : Around) (outer : List Env) (s : Shared) (H : Hp) (vs : List V) (Q : VK) (E : XK), A.guards = some [] → Room k (A.deeper (envOfC qual scope s.heap.objs.size f cdv)) → sp vs H Q E →
      ∃ t, PSs (cxOf CX0 P w K mg base N qual scope f cdv A outer s H E) body t ∧ t { nx := fun _ H' => Q .non H', rt := Q } (start N vs) H) : FnG P w K mg base (k + 1) f fd ps sp := by
  obtain ⟨oc, od, dV, kV, doc, pm, an, cdv, ct, osl, rfl, lk, hcd, _, _⟩ := F.ex
  refine ⟨len, fun A outer s H args us vs Q E hg hr e0 hb r hsp => ?_⟩
  have KX : K.In s.heap := e0.mod.kin.keeps fun b o e => (e0.bs b o e).1
  refine codeAny_call_function hr.depth (KX _ _ lk) rfl S.co S.gen rfl (PySem.W.codeRec_of KX hcd) (hb _ _ _ _ ?_)
  refine wpAny_newFunctionEnv_cells S.kind (fun ⟨n, v⟩ hy => (S.par n (List.of_mem_zip hy).1).elim .inl fun q => .inr ⟨q, PySem.W.cellsFrom_some _ _ _ (.inl q)⟩) fun env he s1 x => ?_
  subst he
  refine ⟨(e0.mod.nolimit.keeps fun b o e => (e0.bs b o e).1).keeps x.toInCall.keep, codeAny_func ?_⟩
  obtain ⟨t, ht, hq⟩ := hbody cdv A outer s H vs Q E hg (hr.deeper _) hsp
  refine wpAny_mono (ht.run [] s1 (start N vs) H _ (inv_start S hr.hd e0 (len _ _ _ _ hsp) r x) hq) (fun fl s' hs => ?_) fun e s' hs => hs
  cases fl with
  | ret u =>
    obtain ⟨v, σ', H', J, rv, q⟩ := hs
    exact ⟨v, H', J.os, J.bare, J.base, J.hok, rv, q⟩
  | next =>
    obtain ⟨σ', H', J, q⟩ := hs
    exact ⟨V.non, H', J.os, J.bare, J.base, J.hok, rfl, q⟩
  | brk =>
    obtain ⟨_, _, _, q⟩ := hs
    exact q.elim
  | cont =>
    obtain ⟨_, _, _, q⟩ := hs
    exact q.elim
/-- a def by its name -/
structure CalG (P : Program) (w : World) (K : PySem.W.Frag) (mg : Str → Option Value) (base : Heap) (k : Nat) (x : Str) (sp : Sp) : Prop where
  ex : ∃ (f : Addr) (fd : FuncData) (ps : List Str), FnG P w K mg base k f fd ps sp ∧ mg x = some (.ref f) ∧ PySem.W.keepIn K (.ref f) = true ∧ Binds K fd ps []
theorem CalN.g {k : Nat} {x : Str} {sp : Sp} (c : CalN P w K mg base k x sp) : CalG P w K mg base k x sp :=
  let ⟨f, fd, ps, F, a, b, d⟩ := c.ex
  ⟨f, fd, ps, .of F, a, b, d⟩
theorem cal_sg {x : Str} {st : Stmt} {f : Addr} {fd : FuncData} {N ps : List Str} {k : Nat} {R : List SK → PyData → Prop} (F : FnP K x x st [] f fd) (hm : mg x = some (.ref f)) (S : FnScope N ps (defScope st))
    (hbd : ∀ (kV doc pm : Value) (an : Option Addr) (cdv ct : Value) (us : List Value), us.length = ps.length → bindArgs (PySem.W.fnOf x x (defArgs st) (defBody st) (defScope st) .none kV doc pm an cdv ct) ⟨us, []⟩ = pure (ps.zip us))
    (hl : ∀ ks d, R ks d → ks.length = ps.length)
    (hb : ∀ (cdv : Value) (A : Around) (outer : List Env) (s : Shared) (H : Hp) (E : XK) (ks : List SK) (d : PyData), A.guards = some [] → Room k (A.deeper (envOfC x (defScope st) s.heap.objs.size f cdv)) → R ks d →
      PSs (cxOf CX0 P w K mg base N x (defScope st) f cdv A outer s H E).nox (defBody st) (tS K C (ks ++ List.replicate (N.length - ks.length) .un) (fun _ => d = .none) (fun d' => d' = d))) : CalG P w K mg base (k + 1) x (SpD K C R) := by
  refine ⟨f, fd, ps, fn_g F S (fun vs H Q E h => ?_) (fun cdv A outer s H vs Q E hg hr h => ?_), hm, F.kp, F.bindsN hbd⟩
  · obtain ⟨Hi, ks, d, _, ha, hR, _⟩ := h
    rw [ha.len]
    exact hl ks d hR
  · obtain ⟨Hi, ks, d, s0, ha, hR, q⟩ := h
    refine ⟨_, (hb cdv A outer s H E ks d hg hr hR).nox, ?_⟩
    refine ⟨H, Hi, Hi, ⟨Same.refl _, Same.refl _, fun b o z => .inl z⟩, slots_start s0 ha, fun G' σ' Hi' H' n _ f' S' => ?_, fun d' v Hi' H' e f' s' h' => ?_⟩
    · have e : d = .none := n
      rw [e] at q
      exact q .non Hi' H' ⟨f'.z, f'.up, S'.sub, f'.new⟩ .non
    · have e : d' = d := e
      rw [e] at h'
      exact q v Hi' H' ⟨f'.z, f'.up, s', f'.new⟩ h'
end
section
variable {X : Cx} {C : Addr} {G : List SK} {e : Expr} {es : List Expr} {pos p : Pos} {d : PyData} {ks : List SK} {R : List SK → PyData → Prop} {k : Nat} {x : Str} {sp : Sp} {t : TA}
/-- f(..) -/
theorem pe_callG (c : CalG X.prog X.w X.K X.mg X.base k x sp) (hgd : X.A.guards = some []) (hr : Room k X.A) (ha : PA X (e :: es) t) (hg : Gl X x := by rfl) (hdb : (x == ("__debug__" : Str)) = false := by decide)
    (he : starEach (e :: es) X.env = (false, eval e X.env) :: starEach es X.env := by rfl) (hpl : (backTo pos (starEach es X.env)).any (·.1) = false := by rfl) : PE X (.Call (.Name x p) (e :: es) [] pos) (fun σ H Q => t σ H fun vs H1 => sp vs H1 Q E0) := by
  obtain ⟨f, fd, ps, F, hm, hk, hb⟩ := c.ex
  refine ⟨fun pins s σ H Q I h => ?_⟩
  refine wpAny_Call_Name_kw (ld_glob I hg hm ?_ hdb)
  refine PySem.W.callWith_K (h₀ := X.base) I.ok.mod.kin hk (thn (ha.run pos pins s σ H _ I h) fun us s1 ⟨vs, H1, I1, r, q⟩ => ⟨I1.kIn, ?_⟩) he hpl
  have hl : (us ++ ([] : List Value)).length = ps.length := by rw [List.append_nil, ← r.length]; exact F.len _ _ _ _ q
  have b := hb s1 us I1.kIn hl
  rw [List.append_nil] at b
  refine wpAny_call (codeAny_mono (F.run X.A X.stack s1 H1 ⟨us, []⟩ us vs Q E0 hgd hr I1.env0 b r q) fun r s' hq => ?_)
  cases r with
  | error e => exact hq.elim
  | ok fl =>
    cases fl with
    | ret u => exact I1.after hq
    | next => exact hq.elim
    | brk => exact hq.elim
    | cont => exact hq.elim
theorem pd_callG {j : Nat} (c : CalG X.prog X.w X.K X.mg X.base k x (SpD X.K C R)) (hgd : X.A.guards = some []) (hr : Room j X.A) (ha : PA X (e :: es) (tDA X.K C G ks)) (hR : R ks d) (hk : k ≤ j := by decide) (hg : Gl X x := by rfl) (hdb : (x == ("__debug__" : Str)) = false := by decide)
    (he : starEach (e :: es) X.env = (false, eval e X.env) :: starEach es X.env := by rfl) (hpl : (backTo pos (starEach es X.env)).any (·.1) = false := by rfl) : PE X (.Call (.Name x p) (e :: es) [] pos) (tD X.K C G d) :=
  pe_to (pe_callG c hgd (hr.mono hk) ha hg hdb he hpl) fun σ H Q ⟨Z, Hi, S, q⟩ => ⟨Z, Hi, S, fun vs Hi1 H1 e1 h1 => ⟨Hi1, ks, d, e1.sub, h1, hR, fun v Hi2 H2 e2 h2 => q v Hi2 H2 (e1.trans e2) h2⟩⟩
end
end NL
set_option maxHeartbeats 2000000
/-! The layer for what changes: expressions and statements over slots whose objects change. -/
namespace NL
open PySem PySem.Spec PyProof.Rows L2 StX
structure FrM (Z Hi Hi' H' : Hp) : Prop where
  z : Same Z H'
  up : Same Hi Hi'
  new : ∀ b o, Hi' b = some o → Hi b = some o ∨ Z b = none
section
variable {Z Hi0 Hi H Hi1 H1 Hi' H' : Hp}
theorem FrM.ext (z : Same Z H) (e : Ext Hi H Hi' H') : FrM Z Hi Hi' H' := ⟨z.trans e.same, e.up, fun b o h => (e.new b o h).imp id z.free⟩
theorem FrM.refl (z : Same Z H) : FrM Z Hi Hi H := ⟨z, Same.refl _, fun b o h => .inl h⟩
theorem FrM.trans (a : FrM Z Hi Hi1 H1) (b : FrM Z Hi1 Hi' H') : FrM Z Hi Hi' H' := ⟨b.z, a.up.trans b.up, fun c o h => by
  rcases b.new c o h with q | q
  · exact a.new c o q
  · exact .inr q⟩
theorem Fr.stepM (f : Fr Z Hi0 Hi H) (m : FrM Z Hi Hi' H') : Fr Z Hi0 Hi' H' := ⟨m.z, f.up.trans m.up, fun b o h => by
  rcases m.new b o h with q | q
  · exact f.new b o q
  · exact .inr q⟩
theorem Fr.toM (f : Fr Z Hi0 Hi H) : Same Z H := f.z
end
section
variable (K : PySem.W.Frag) (C : Addr)
def tE (G : List SK) (M : PyData → List SK → Prop) : TE := fun σ H Q => ∃ Z Hi, Same Z H ∧ SlotsOk K C Z Hi H σ G ∧ ∀ v Hi' H' d G', M d G' → FrM Z Hi Hi' H' → SlotsOk K C Z Hi' H' σ G' → Dp K Hi' v d → Q v H'
def tET (G : List SK) (M : Bool → List SK → Prop) : TT := fun σ H Q => ∃ Z Hi, Same Z H ∧ SlotsOk K C Z Hi H σ G ∧ ∀ Hi' H' b G', M b G' → FrM Z Hi Hi' H' → SlotsOk K C Z Hi' H' σ G' → Q b H'
def tEA (G : List SK) (M : List PyData → List SK → Prop) : TA := fun σ H Q => ∃ Z Hi, Same Z H ∧ SlotsOk K C Z Hi H σ G ∧ ∀ vs Hi' H' ds G', M ds G' → FrM Z Hi Hi' H' → SlotsOk K C Z Hi' H' σ G' → DpAll K Hi' vs ds → Q vs H'
def tEI (G : List SK) (M : List PyData → List SK → Prop) : TI := fun σ H R => ∃ Z Hi, Same Z H ∧ SlotsOk K C Z Hi H σ G ∧ ∀ J Hi' H' ds G', M ds G' → FrM Z Hi Hi' H' → SlotsOk K C Z Hi' H' σ G' → WalkD K J ds Hi' → R J H'
def tM (G : List SK) (N : List SK → Prop) (R : PyData → List SK → Prop) : TS := fun D σ H => ∃ Z Hi0 Hi, Fr Z Hi0 Hi H ∧ SlotsOk K C Z Hi H σ G ∧
  (∀ G' σ' Hi' H', N G' → Same Hi Hi' → Fr Z Hi0 Hi' H' → SlotsOk K C Z Hi' H' σ' G' → D.nx σ' H') ∧ (∀ d v G' σ' Hi' H', R d G' → Fr Z Hi0 Hi' H' → SlotsOk K C Z Hi' H' σ' G' → Dp K Hi' v d → D.rt v H')
end
section
variable {X : Cx} {C : Addr} {G : List SK} {a b e : Expr} {es : List Expr} {pos : Pos} {d d1 d2 : PyData} {M M1 : PyData → List SK → Prop} {M2 : PyData → PyData → List SK → Prop} {k : Bool}

/-! ### expressions -/
theorem te_p (h : PE X e (tD X.K C G d)) (hm : M d G) : PE X e (tE X.K C G M) := pe_to h fun σ H Q ⟨Z, Hi, z, S, q⟩ => ⟨Z, Hi, S, fun v Hi' H' e hv => q v Hi' H' d G hm (FrM.ext z e) (S.ext e) hv⟩
theorem te_imp (h : PE X e (tE X.K C G M1)) (hm : ∀ d G', M1 d G' → M d G') : PE X e (tE X.K C G M) := pe_to h fun σ H Q ⟨Z, Hi, z, S, q⟩ => ⟨Z, Hi, z, S, fun v Hi' H' d G' m => q v Hi' H' d G' (hm d G' m)⟩
theorem pe_un' {ι : Type} {P : ι → Prop} {t : ι → TE} (h : ∀ i, P i → PE X e (t i)) : PE X e (fun σ H Q => ∃ i, P i ∧ t i σ H Q) := pe_or' h
theorem te_2 {r : R2} {σ : L2.St} {H : Hp} {Q : VK} (h : ∀ d1 G1 d2 G2, M1 d1 G1 → M2 d1 d2 G2 → ∃ d, OpD X.K r d1 d2 d ∧ M d G2) (hw : tE X.K C G M σ H Q) : tOp r (tE X.K C G M1) (fun σ H Q => ∃ i : PyData × List SK, M1 i.1 i.2 ∧ tE X.K C i.2 (M2 i.1) σ H Q) σ H Q := by
  obtain ⟨Z, Hi, z, S, q⟩ := hw
  refine ⟨Z, Hi, z, S, fun x Hi1 H1 d1 G1 m1 f1 S1 h1 => ⟨(d1, G1), m1, Z, Hi1, f1.z, S1, fun y Hi2 H2 d2 G2 m2 f2 S2 h2 => ?_⟩⟩
  obtain ⟨d, ho, m⟩ := h d1 G1 d2 G2 m1 m2
  exact ho Hi2 H2 x y Q S2.sub (dp_mono f2.up _ _ h1) h2 fun v Hi3 H3 e3 h3 => q v Hi3 H3 d G2 m (f1.trans (f2.trans (FrM.ext f2.z e3))) (S2.ext e3) h3
theorem te_op {op : Operator} {r : R2} (ho : OpR X (binaryOp op) r) (ha : PE X a (tE X.K C G M1)) (hb : ∀ d1 G1, M1 d1 G1 → PE X b (tE X.K C G1 (M2 d1))) (h : ∀ d1 G1 d2 G2, M1 d1 G1 → M2 d1 d2 G2 → ∃ d, OpD X.K r d1 d2 d ∧ M d G2) : PE X (.BinOp a op b pos) (tE X.K C G M) :=
  pe_to (pe_op ho ha (pe_or' (ι := PyData × List SK) (P := fun i => M1 i.1 i.2) (t := fun i => tE X.K C i.2 (M2 i.1)) fun i hi => hb i.1 i.2 hi)) fun σ H Q hw => te_2 h hw
theorem te_cmp {op : CmpOp} {r : R2} (ho : OpR X (compareOp op) r) (ha : PE X a (tE X.K C G M1)) (hb : ∀ d1 G1, M1 d1 G1 → PE X b (tE X.K C G1 (M2 d1))) (h : ∀ d1 G1 d2 G2, M1 d1 G1 → M2 d1 d2 G2 → ∃ d, OpD X.K r d1 d2 d ∧ M d G2) (hm : behindInMarks op b = false := by first | exact nomark _ | rfl) : PE X (.Compare a [op] [b] pos) (tE X.K C G M) :=
  pe_to (pe_cmpR ho ha (pe_or' (ι := PyData × List SK) (P := fun i => M1 i.1 i.2) (t := fun i => tE X.K C i.2 (M2 i.1)) fun i hi => hb i.1 i.2 hi) hm) fun σ H Q hw => te_2 h hw
theorem te_ixL (ha : PE X a (tE X.K C G M1)) (hb : ∀ d1 G1, M1 d1 G1 → PE X b (tE X.K C G1 (M2 d1))) (h : ∀ d1 G1 d2 G2, M1 d1 G1 → M2 d1 d2 G2 → ∃ ds i d, d1 = .list ds ∧ d2 = .int i ∧ atI ds i = some d ∧ M d G2) (hp : PlainIx b := by exact fun _ _ => rfl) : PE X (.Subscript a b pos) (tE X.K C G M) :=
  pe_to (pe_ix ix_list ha (pe_or' (ι := PyData × List SK) (P := fun i => M1 i.1 i.2) (t := fun i => tE X.K C i.2 (M2 i.1)) fun i hi => hb i.1 i.2 hi) hp) fun σ H Q hw => te_2 (fun d1 G1 d2 G2 m1 m2 => by
    obtain ⟨ds, i, d, rfl, rfl, hi, m⟩ := h d1 G1 d2 G2 m1 m2
    exact ⟨d, opd_ixL hi, m⟩) hw
/-! ### tests -/
variable {MT MT1 : Bool → List SK → Prop}
theorem tt_p (h : PT X e (tDT X.K C G k)) (hm : MT k G) : PT X e (tET X.K C G MT) := pt_to h fun σ H Q ⟨Z, Hi, z, S, q⟩ => ⟨Z, Hi, S, fun Hi' H' e => q Hi' H' k G hm (FrM.ext z e) (S.ext e)⟩
theorem tt_val (h : PE X e (tE X.K C G M)) (hb : ∀ d G', M d G' → ∃ k, d = .bool k ∧ MT k G') (he : ∀ whole, isTrue e X.env whole = (do let v ← whole; standAt e.pos; holding [v] (truthy v)) := by intro _; rfl) : PT X e (tET X.K C G MT) :=
  pt_to (pt_val h he) fun σ H Q ⟨Z, Hi, z, S, q⟩ => ⟨Z, Hi, z, S, fun v Hi' H' d G' m f S' hv => by
    obtain ⟨k, rfl, m'⟩ := hb d G' m
    exact ⟨k, dp_bool hv, q Hi' H' k G' m' f S'⟩⟩
theorem tt_cmp {op : CmpOp} {r : R2} (ho : OpR X (compareOp op) r) (ha : PE X a (tE X.K C G M1)) (hb : ∀ d1 G1, M1 d1 G1 → PE X b (tE X.K C G1 (M2 d1))) (h : ∀ d1 G1 d2 G2, M1 d1 G1 → M2 d1 d2 G2 → ∃ k, OpD X.K r d1 d2 (.bool k) ∧ MT k G2) (hm : behindInMarks op b = false := by first | exact nomark _ | rfl) : PT X (.Compare a [op] [b] pos) (tET X.K C G MT) :=
  pt_to (pt_cmpR ho ha (pe_or' (ι := PyData × List SK) (P := fun i => M1 i.1 i.2) (t := fun i => tE X.K C i.2 (M2 i.1)) fun i hi => hb i.1 i.2 hi) hm) fun σ H Q ⟨Z, Hi, z, S, q⟩ => te_2 (M := fun d G' => ∃ k, d = .bool k ∧ MT k G') (fun d1 G1 d2 G2 m1 m2 => by
    obtain ⟨k, ho, m⟩ := h d1 G1 d2 G2 m1 m2
    exact ⟨.bool k, ho, k, rfl, m⟩) ⟨Z, Hi, z, S, fun v Hi' H' d G' ⟨k, ed, m⟩ f S' hv => by
      subst ed
      exact ⟨k, dp_bool hv, q Hi' H' k G' m f S'⟩⟩
theorem tt_not (h : PT X a (tET X.K C G MT1)) (hm : ∀ k G', MT1 k G' → MT (!k) G') : PT X (.UnaryOp .Not a pos) (tET X.K C G MT) := pt_to (pt_not h) fun σ H Q ⟨Z, Hi, z, S, q⟩ => ⟨Z, Hi, z, S, fun Hi' H' k G' m => q Hi' H' (!k) G' (hm k G' m)⟩
theorem pw_or' {e : Expr} {ι : Type} {P : ι → Prop} {t : ι → TT} (h : ∀ i, P i → PW X e (t i)) : PW X e (fun σ H Q => ∃ i, P i ∧ t i σ H Q) := ⟨fun w pins s σ H Q I ⟨i, p, hw⟩ => (h i p).run w pins s σ H Q I hw⟩
theorem tt_or (ha : PT X a (tET X.K C G MT1)) (hb : ∀ G1, MT1 false G1 → PW X (.BoolOp .Or (b :: es) pos) (tET X.K C G1 MT)) (ht : ∀ G1, MT1 true G1 → MT true G1) : PW X (.BoolOp .Or (a :: b :: es) pos) (tET X.K C G MT) :=
  pw_to (pw_or ha (pw_or' (P := fun G1 => MT1 false G1) (t := fun G1 => tET X.K C G1 MT) hb)) fun σ H Q ⟨Z, Hi, z, S, q⟩ => ⟨Z, Hi, z, S, fun Hi1 H1 k G1 m f S1 => by
    cases k with
    | true => exact q Hi1 H1 true G1 (ht G1 m) f S1
    | false => exact ⟨G1, m, Z, Hi1, f.z, S1, fun Hi2 H2 k G2 m2 f2 S2 => q Hi2 H2 k G2 m2 (f.trans f2) S2⟩⟩
theorem pt_or2 {e : Expr} {ι : Type} {P : ι → Prop} {t : ι → TT} (h : ∀ i, P i → PT X e (t i)) : PT X e (fun σ H Q => ∃ i, P i ∧ t i σ H Q) := ⟨fun pins s σ H Q I ⟨i, p, hw⟩ => (h i p).run pins s σ H Q I hw⟩
theorem te_if {t : Expr} (ht : PT X t (tET X.K C G MT)) (ha : ∀ G1, MT true G1 → PE X a (tE X.K C G1 M)) (hb : ∀ G1, MT false G1 → PE X b (tE X.K C G1 M)) : PE X (.IfExp t a b pos) (tE X.K C G M) :=
  pe_to (pe_ifExp ht (pe_or' (P := fun G1 => MT true G1) (t := fun G1 => tE X.K C G1 M) ha) (pe_or' (P := fun G1 => MT false G1) (t := fun G1 => tE X.K C G1 M) hb)) fun σ H Q ⟨Z, Hi, z, S, q⟩ => ⟨Z, Hi, z, S, fun Hi1 H1 k G1 m f S1 => by
    cases k with
    | true => exact ⟨G1, m, Z, Hi1, f.z, S1, fun v Hi2 H2 d G2 m2 f2 S2 => q v Hi2 H2 d G2 m2 (f.trans f2) S2⟩
    | false => exact ⟨G1, m, Z, Hi1, f.z, S1, fun v Hi2 H2 d G2 m2 f2 S2 => q v Hi2 H2 d G2 m2 (f.trans f2) S2⟩⟩
/-! ### lists of values -/
variable {MA MA1 : List PyData → List SK → Prop}
theorem pa_or' {ι : Type} {P : ι → Prop} {t : ι → TA} (h : ∀ i, P i → PA X es (t i)) : PA X es (fun σ H Q => ∃ i, P i ∧ t i σ H Q) := ⟨fun pos pins s σ H Q I ⟨i, p, hw⟩ => (h i p).run pos pins s σ H Q I hw⟩
theorem ea_nil (hm : MA [] G) : PA X [] (tEA X.K C G MA) := pa_to pa_nil fun σ H Q ⟨Z, Hi, z, S, q⟩ => q [] Hi H [] G hm (FrM.refl z) S .nil
theorem ea_cons {MB : PyData → List PyData → List SK → Prop} (ha : PE X e (tE X.K C G M1)) (hr : ∀ d1 G1, M1 d1 G1 → PA X es (tEA X.K C G1 (MB d1))) (hm : ∀ d1 G1 ds G2, M1 d1 G1 → MB d1 ds G2 → MA (d1 :: ds) G2) (hs : starEach (e :: es) X.env = (false, eval e X.env) :: starEach es X.env := by rfl) : PA X (e :: es) (tEA X.K C G MA) :=
  pa_to (pa_cons ha (pa_or' (ι := PyData × List SK) (P := fun i => M1 i.1 i.2) (t := fun i => tEA X.K C i.2 (MB i.1)) fun i hi => hr i.1 i.2 hi) hs) fun σ H Q ⟨Z, Hi, z, S, q⟩ => ⟨Z, Hi, z, S, fun v Hi1 H1 d1 G1 m1 f1 S1 h1 => ⟨(d1, G1), m1, Z, Hi1, f1.z, S1, fun vs Hi2 H2 ds G2 m2 f2 S2 h2 =>
    q (v :: vs) Hi2 H2 (d1 :: ds) G2 (hm d1 G1 ds G2 m1 m2) (f1.trans f2) S2 (.cons (dp_mono f2.up _ _ h1) h2)⟩⟩
theorem te_lst (ha : PA X es (tEA X.K C G MA)) (hm : ∀ ds G', MA ds G' → ds.length ≤ sizeLine ∧ M (.list ds) G') : PE X (.List es pos) (tE X.K C G M) :=
  pe_to (pe_lst ha) fun σ H Q ⟨Z, Hi, z, S, q⟩ => ⟨Z, Hi, z, S, fun vs Hi1 H1 ds G1 m f S1 h1 => ⟨by rw [dps_len h1]; exact (hm ds G1 m).1, fun p hp => by
    have E := Ext.one (o := .lst vs) S1.sub hp
    exact q _ _ _ (.list ds) G1 (hm ds G1 m).2 (f.trans (FrM.ext f.z E)) (S1.ext E) (new_lst S1.sub h1 hp)⟩⟩
theorem te_tup {n : Nat} (ha : PA X es (tEA X.K C G MA)) (hm : ∀ ds G', MA ds G' → ds.length ≤ sizeLine ∧ M (.tuple ds) G') : PE X (.Tuple es n pos) (tE X.K C G M) :=
  pe_to (pe_tup ha) fun σ H Q ⟨Z, Hi, z, S, q⟩ => ⟨Z, Hi, z, S, fun vs Hi1 H1 ds G1 m f S1 h1 => ⟨by rw [dps_len h1]; exact (hm ds G1 m).1, fun p hp => by
    have E := Ext.one (o := .tup vs) S1.sub hp
    exact q _ _ _ (.tuple ds) G1 (hm ds G1 m).2 (f.trans (FrM.ext f.z E)) (S1.ext E) (new_tup S1.sub h1 hp)⟩⟩
theorem te_cb {r : List V → Hp → VK → Prop} (h : ∀ ds G1, MA ds G1 → ∃ d, CallD X.K r ds d ∧ M d G1) : ∀ σ H Q, tE X.K C G M σ H Q → tCB r (tEA X.K C G MA) σ H Q := fun σ H Q ⟨Z, Hi, z, S, q⟩ =>
  ⟨Z, Hi, z, S, fun vs Hi1 H1 ds G1 m f S1 h1 => by
    obtain ⟨d, hc, m'⟩ := h ds G1 m
    exact hc Hi1 H1 vs Q S1.sub h1 fun v Hi2 H2 e2 h2 => q v Hi2 H2 d G1 m' (f.trans (FrM.ext f.z e2)) (S1.ext e2) h2⟩
/-! ### statements -/
variable {N N1 : List SK → Prop} {R : PyData → List SK → Prop} {st : Stmt} {sts body els : List Stmt}
theorem sm_of {N' : List SK → Prop} (h : PS X st (tS X.K C G N' (fun _ => False))) (hn : ∀ g, N' g → N g := by exact fun _ z => z) : PS X st (tM X.K C G N R) :=
  ps_to h fun D σ H ⟨Z, Hi0, Hi, f, S, q1, q2⟩ => ⟨Z, Hi0, Hi, f, S, fun G' σ' Hi' H' n => q1 G' σ' Hi' H' (hn G' n), fun _ _ _ _ z => z.elim⟩
theorem sm_end {G' : List SK} (h : N G') (w : Weak G G') : PSs X [] (tM X.K C G N R) := pss_to pss_nil fun D σ H ⟨Z, Hi0, Hi, f, S, q1, q2⟩ => q1 G' σ Hi H h (Same.refl _) f (S.weak w)
theorem sm_cons (h1 : PS X st (tM X.K C G N1 R)) (h2 : ∀ G1, N1 G1 → PSs X sts (tM X.K C G1 N R)) : PSs X (st :: sts) (tM X.K C G N R) :=
  pss_to (pss_cons h1 (pss_or' (P := N1) (t := fun G1 => tM X.K C G1 N R) h2)) fun D σ H ⟨Z, Hi0, Hi, f, S, q1, q2⟩ => ⟨Z, Hi0, Hi, f, S, fun G' σ' Hi' H' m s' f' S' => ⟨G', m, Z, Hi0, Hi', f', S', fun G2 σ2 Hi2 H2 n s2 => q1 G2 σ2 Hi2 H2 n (s'.trans s2), q2⟩, q2⟩
theorem sm_seq {G1 : List SK} (h1 : PS X st (tM X.K C G (fun g => g = G1) R)) (h2 : PSs X sts (tM X.K C G1 N R)) : PSs X (st :: sts) (tM X.K C G N R) := sm_cons h1 fun _ e => e ▸ h2
/-- a pure statement, then more -/
theorem sm_pure {G1 : List SK} (h1 : PS X st (tS X.K C G (fun g => g = G1) (fun _ => False))) (h2 : PSs X sts (tM X.K C G1 N R)) : PSs X (st :: sts) (tM X.K C G N R) := sm_seq (sm_of h1) h2
theorem sm_last (h1 : PS X st (tM X.K C G N R)) : PSs X [st] (tM X.K C G N R) := pss_to (pss_one h1) fun D σ H h => h
theorem sm_weak {G' : List SK} (h : PSs X sts (tM X.K C G' N R)) (w : Weak G G') : PSs X sts (tM X.K C G N R) := pss_to h fun D σ H ⟨Z, Hi0, Hi, f, S, q1, q2⟩ => ⟨Z, Hi0, Hi, f, S.weak w, q1, q2⟩
theorem sm_freeze {ds : List PyData} (i : Nat) (hk : G[i]? = some (.mls ds)) (h : PSs X sts (tM X.K C (G.set i (.dat (.list ds))) N R)) : PSs X sts (tM X.K C G N R) :=
  pss_to h fun D σ H ⟨Z, Hi0, Hi, f, S, r1, r2⟩ => by
    obtain ⟨Hi', s, nw, S'⟩ := S.freeze hk
    exact ⟨Z, Hi0, Hi', ⟨f.z, f.up.trans s, fun b o z => (nw b o z).elim (fun z => f.new b o z) .inr⟩, S', fun G2 σ2 Hi2 H2 n s2 => r1 G2 σ2 Hi2 H2 n (s.trans s2), r2⟩
theorem sm_set (i : Nat) {x : Str} {q : Pos} (hN : X.N.Nodup) (he : PE X e (tE X.K C G M)) (hn : ∀ d G', M d G' → N (G'.set i (.dat d))) (hi : X.N[i]? = some x := by rfl) (hx : Loc X.env.scope x := by first | exact Or.inl rfl | exact Or.inr rfl) (hs : swapsWith e (some (.Name x q)) pos.line X.env = pure false := by rfl)
    (hf : X.fn x = true ∨ X.env.scope.names.lookup x = some .local := by first | exact .inl rfl | exact .inr rfl) : PS X (.Assign [.Name x q] e pos) (tM X.K C G N R) :=
  ps_to (ps_set hN hi hx he hs hf) fun D σ H ⟨Z, Hi0, Hi, f, S, q1, q2⟩ => ⟨Z, Hi, f.z, S, fun v Hi1 H1 d G1 m f1 S1 h1 => q1 _ _ Hi1 H1 (hn d G1 m) f1.up (f.stepM f1) (S1.setD h1)⟩
theorem sm_asg {pt : Pt} {tg : Expr} (he : PE X e (tE X.K C G M)) (hg : PG X tg (gPt X.K pt)) (hb : ∀ d G', M d G' → ∃ G2, BindG pt d G' G2 ∧ N G2) (hs : swapsWithSole [tg] e pos.line X.env = pure false := by rfl) (hw : swappedStores [tg] e X.env = pure none := by rfl)
    (h1 : (assignEach [tg] X.env).map (·.2) = [assign tg X.env] := by rfl) : PS X (.Assign [tg] e pos) (tM X.K C G N R) :=
  ps_to (ps_asg he hg hs hw h1) fun D σ H ⟨Z, Hi0, Hi, f, S, q1, q2⟩ => ⟨Z, Hi, f.z, S, fun v Hi1 H1 d G1 m f1 S1 hv => by
    obtain ⟨G2, b, n⟩ := hb d G1 m
    exact g_bind S1 hv b fun σ' S' => q1 _ _ Hi1 H1 n f1.up (f.stepM f1) S'⟩
theorem sm_ret (he : PE X e (tE X.K C G M)) (hr : ∀ d G', M d G' → R d G') : PS X (.Return (some e) pos) (tM X.K C G N R) :=
  ps_to (ps_ret he) fun D σ H ⟨Z, Hi0, Hi, f, S, q1, q2⟩ => ⟨Z, Hi, f.z, S, fun v Hi1 H1 d G1 m f1 S1 h1 => q2 d v G1 σ Hi1 H1 (hr d G1 m) (f.stepM f1) S1 h1⟩
theorem sm_expr (he : PE X e (tE X.K C G M)) (hn : ∀ d G', M d G' → N G') (hs : swapsWith e none pos.line X.env = pure false := by rfl) : PS X (.Expr e pos) (tM X.K C G N R) :=
  ps_to (ps_expr he hs) fun D σ H ⟨Z, Hi0, Hi, f, S, q1, q2⟩ => ⟨Z, Hi, f.z, S, fun v Hi1 H1 d G1 m f1 S1 h1 => q1 G1 σ Hi1 H1 (hn d G1 m) f1.up (f.stepM f1) S1⟩
theorem sm_if {t : Expr} (ht : PT X t (tET X.K C G MT)) (h1 : ∀ G1, MT true G1 → PSs X body (tM X.K C G1 N R)) (h2 : ∀ G1, MT false G1 → PSs X els (tM X.K C G1 N R)) : PS X (.If t body els pos) (tM X.K C G N R) :=
  ps_to (ps_if ht (pss_or' (P := fun G1 => MT true G1) (t := fun G1 => tM X.K C G1 N R) h1) (pss_or' (P := fun G1 => MT false G1) (t := fun G1 => tM X.K C G1 N R) h2)) fun D σ H ⟨Z, Hi0, Hi, f, S, q1, q2⟩ => ⟨Z, Hi, f.z, S, fun Hi1 H1 k G1 m f1 S1 => by
    cases k with
    | true => exact ⟨G1, m, Z, Hi0, Hi1, f.stepM f1, S1, fun G2 σ2 Hi2 H2 n s2 => q1 G2 σ2 Hi2 H2 n (f1.up.trans s2), q2⟩
    | false => exact ⟨G1, m, Z, Hi0, Hi1, f.stepM f1, S1, fun G2 σ2 Hi2 H2 n s2 => q1 G2 σ2 Hi2 H2 n (f1.up.trans s2), q2⟩⟩
/-- an if with a pure test -/
theorem sm_ifP {t : Expr} (ht : PT X t (tDT X.K C G k)) (h1 : k = true → PSs X body (tM X.K C G N R)) (h2 : k = false → PSs X els (tM X.K C G N R)) : PS X (.If t body els pos) (tM X.K C G N R) :=
  sm_if (MT := fun b G1 => b = k ∧ G1 = G) (tt_p ht ⟨rfl, rfl⟩) (fun G1 ⟨e, e2⟩ => e2 ▸ h1 e.symm) (fun G1 ⟨e, e2⟩ => e2 ▸ h2 e.symm)
theorem ei_p {tg iter : Expr} {ds : List PyData} (h : PI X tg iter (tDI X.K C G ds)) (hm : MA ds G) : PI X tg iter (tEI X.K C G MA) := pi_to h fun σ H Q ⟨Z, Hi, z, S, q⟩ => ⟨Z, Hi, S, fun J Hi' H' e w => q J Hi' H' ds G hm (FrM.ext z e) (S.ext e) w⟩
theorem ei_rng1 {tg a : Expr} {q : Pos} (hm : X.mg "range" = none) (h : PE X a (tE X.K C G M)) (hd : ∀ d G', M d G' → ∃ i : Int, d = .int i ∧ -(2 ^ 62) ≤ i ∧ i < 2 ^ 62 ∧ MA (rngD 0 i.toNat) G') (hg : Gl X "range" := by rfl) (he : starEach [a] X.env = [(false, eval a X.env)] := by rfl) : PI X tg (.Call (.Name "range" q) [a] [] pos) (tEI X.K C G MA) :=
  pi_to (pi_range1 hg hm (pa_cons h pa_nil he) he) fun σ H R ⟨Z, Hi, z, S, q⟩ => ⟨Z, Hi, z, S, fun v Hi1 H1 d G1 m f1 S1 h1 => by
    obtain ⟨i, rfl, b1, b2, m'⟩ := hd d G1 m
    exact ⟨i, by rw [dp_int h1], b1, b2, q _ Hi1 H1 _ G1 m' f1 S1 wd_rng⟩⟩
/-- for -/
theorem sm_for {tg iter : Expr} {pt : Pt} (P : List PyData → Nat → List SK → Prop) (hc : X.calm = true) (hi : PI X tg iter (tEI X.K C G MA)) (hg : PG X tg (gPt X.K pt)) (h0 : ∀ ds G1, MA ds G1 → P ds 0 G1)
    (hs : ∀ (ds : List PyData) (i : Nat) (d : PyData) (Gi : List SK), ds[i]? = some d → P ds i Gi → ∃ G', BindG pt d Gi G' ∧ PSs X body (tM X.K C G' (P ds (i + 1)) R)) (hd : ∀ ds G', P ds ds.length G' → N G')
    (hp : PassesOwn (model X.prog X.w) X.A X.env X.xe := by exact PassesOwn.never) (hfs : ∀ x, foldedSetIterable iter X.env x = pure x := by intro _; rfl) : PS X (.For tg iter body [] pos) (tM X.K C G N R) := by
  refine ps_to (ps_for hp hc hi hg (pss_or' (ι := List PyData × Nat × PyData × List SK × List SK) (P := fun z => z.1[z.2.1]? = some z.2.2.1 ∧ P z.1 z.2.1 z.2.2.2.1 ∧ BindG pt z.2.2.1 z.2.2.2.1 z.2.2.2.2) (t := fun z => tM X.K C z.2.2.2.2 (P z.1 (z.2.1 + 1)) R) ?_) hfs) ?_
  · rintro ⟨ds, i, d, Gi, G'⟩ ⟨h1, h2, h3⟩
    obtain ⟨G2, h4, h5⟩ := hs ds i d Gi h1 h2
    have e : G' = G2 := BindG.det h3 h4
    rw [e]
    exact h5
  · rintro D σ H ⟨Z, Hi0, Hi, f, S, r1, r2⟩
    refine ⟨Z, Hi, f.z, S, fun J Hi1 H1 ds G1 m f1 S1 w => ?_⟩
    refine ⟨fun i m σ2 H2 => m = ds.length - i ∧ i ≤ ds.length ∧ ∃ Gi Hi2, P ds i Gi ∧ Fr Z Hi0 Hi2 H2 ∧ Same Hi1 Hi2 ∧ SlotsOk X.K C Z Hi2 H2 σ2 Gi, ⟨ds.length, by simp, Nat.zero_le _, G1, Hi1, h0 ds G1 m, f.stepM f1, Same.refl _, S1⟩, ?_⟩
    rintro i m σ2 H2 ⟨rfl, hle, Gi, Hi2, p, f2, s2, S2⟩
    by_cases hlt : i < ds.length
    · obtain ⟨d, hdi⟩ := at_some hlt
      refine .inr ⟨w.goes i H2 hlt (s2.trans S2.sub), fun σ' H' => ∃ Gi Hi2, P ds (i + 1) Gi ∧ Fr Z Hi0 Hi2 H' ∧ Same Hi1 Hi2 ∧ SlotsOk X.K C Z Hi2 H' σ' Gi, fun σ' H' z => ⟨ds.length - (i + 1), by omega, rfl, hlt, z⟩, fun x H' y => ?_⟩
      obtain ⟨Hi3, d', h1, h2, h3⟩ := w.yields i H2 Hi2 x H' hlt s2 S2.sub y
      rw [hdi] at h1
      cases h1
      obtain ⟨G', h4, h5⟩ := hs ds i d Gi hdi p
      refine g_bind (S2.ext h2) h3 h4 fun σ4 S4 => ⟨(ds, i, d, Gi, G'), ⟨hdi, p, h4⟩, Z, Hi0, Hi3, f2.ext h2, S4, fun G5 σ5 Hi5 H5 p5 s5 f5 S5 => ⟨G5, Hi5, p5, f5, s2.trans (h2.up.trans s5), S5⟩, r2⟩
    · have e : i = ds.length := by omega
      subst e
      exact .inl ⟨w.stops H2 (s2.trans S2.sub), r1 Gi σ2 Hi2 H2 (hd ds Gi p) (f1.up.trans s2) f2 S2⟩
end
end NL
set_option maxHeartbeats 2000000
/-! Promises of defs that change what they are given; their calls. -/
namespace NL
open PySem PySem.Spec PyProof.Rows L2 StX
def adOf : SK → Option Addr
  | .rcm a _ _ _ => some a
  | .aml a _ => some a
  | .st a _ _ _ _ => some a
  | _ => none
def setAll : List SK → List Nat → List SK → List SK
  | G, i :: is, k :: ks => setAll (G.set i k) is ks
  | G, _, _ => G
theorem setAll_len : ∀ (is : List Nat) (ks : List SK) (G : List SK), (setAll G is ks).length = G.length
  | [], _, _ => by unfold setAll; rfl
  | _ :: _, [], _ => by unfold setAll; rfl
  | i :: is, k :: ks, G => by
    unfold setAll
    rw [setAll_len is ks, List.length_set]
theorem setAll_out : ∀ (is : List Nat) (ks : List SK) (G : List SK) (n : Nat), n ∉ is → (setAll G is ks)[n]? = G[n]?
  | [], _, _, _, _ => by unfold setAll; rfl
  | _ :: _, [], _, _, _ => by unfold setAll; rfl
  | i :: is, k :: ks, G, n, h => by
    unfold setAll
    rw [setAll_out is ks _ n (fun z => h (List.mem_cons_of_mem _ z)), List.getElem?_set_ne (fun e => h (by rw [e]; exact List.mem_cons_self))]
theorem setAll_at : ∀ (is : List Nat) (ks : List SK) (G : List SK) (j n : Nat) (k : SK), is.Nodup → is[j]? = some n → ks[j]? = some k → n < G.length → (setAll G is ks)[n]? = some k
  | [], _, _, _, _, _, _, h, _, _ => by simp at h
  | _ :: _, [], _, _, _, _, _, _, h, _ => by simp at h
  | i :: is, k0 :: ks, G, 0, n, k, nd, h1, h2, hl => by
    have e1 : i = n := Option.some.inj h1
    have e2 : k0 = k := Option.some.inj h2
    subst e1
    subst e2
    unfold setAll
    rw [setAll_out is ks _ i (List.nodup_cons.mp nd).1, List.getElem?_set_self hl]
  | i :: is, k0 :: ks, G, j + 1, n, k, nd, h1, h2, hl => by
    unfold setAll
    exact setAll_at is ks _ j n k (List.nodup_cons.mp nd).2 h1 h2 (by rw [List.length_set]; exact hl)
section
variable {K : PySem.W.Frag} {C : Addr} {Z Hi H : Hp} {o : Option (Option V)} {k : SK} {a : Addr}
theorem slot_ad (h : SlotOk K C Z Hi H o k) (e : adOf k = some a) : o = some (some (.ref a)) := by
  cases k with
  | rcm b _ _ _ => cases e; exact h.1
  | aml b _ => cases e; exact let ⟨_, h1, _⟩ := h; h1
  | st b _ _ _ _ => cases e; exact h.1
  | _ => cases e
theorem own_ad {o' : Option (Option V)} {b : Addr} (e : (adOf k).isSome = true) (h : Own o k b) : Own o' k b := by
  cases k with
  | rcm _ _ _ _ => exact h
  | aml _ _ => exact h
  | st _ _ _ _ _ => exact h
  | _ => cases e
/-- the same slot over another frame -/
theorem slot_z {Z' : Hp} (h : SlotOk K C Z Hi H o k) (hz : ∀ b, Own o k b → Z b = none → Z' b = none) : SlotOk K C Z' Hi H o k := by
  cases k with
  | un => trivial
  | dat d => exact h
  | pdt d => exact h
  | mls ds =>
    obtain ⟨b, vs, h1, h2, h3, h4, h5⟩ := h
    exact ⟨b, vs, h1, h2, h3, h4, hz b h1 h5⟩
  | mdk ks =>
    obtain ⟨b, h1, h2, h4, h5⟩ := h
    exact ⟨b, h1, h2, h4, hz b h1 h5⟩
  | rcv p l q => exact h
  | rcm b p l q =>
    obtain ⟨h1, h2, h3, h4⟩ := h
    exact ⟨h1, h2, h3, hz b rfl h4⟩
  | aml b ds =>
    obtain ⟨vs, h1, h2, h3, h4, h5⟩ := h
    exact ⟨vs, h1, h2, h3, h4, hz b rfl h5⟩
  | st b l cells lefts t =>
    obtain ⟨h1, h2, h3, h4, h5, h6⟩ := h
    exact ⟨h1, h2, h3, hz b (.inl rfl) h4, h5, hz l (.inr rfl) h6⟩
/-- a slot whose own objects stand (no receiver that is merely read) -/
theorem slot_keep {Hi' H' : Hp} (h : SlotOk K C Z Hi H o k) (nr : ∀ p l q, k ≠ .rcv p l q) (up : Same Hi Hi') (ho : ∀ b, Own o k b → ∀ u, H b = some u → H' b = some u) (hn : ∀ b, Own o k b → Hi' b = none) : SlotOk K C Z Hi' H' o k := by
  cases k with
  | un => trivial
  | dat d =>
    obtain ⟨v, h1, h2⟩ := h
    exact ⟨v, h1, dp_mono up _ _ h2⟩
  | pdt d =>
    obtain ⟨v, h1, h2, h3⟩ := h
    exact ⟨v, h1, dp_mono up _ _ h2, h3.mono up⟩
  | mls ds =>
    obtain ⟨b, vs, h1, h2, h3, h4, h5⟩ := h
    exact ⟨b, vs, h1, ho b h1 _ h2, dps_mono up _ _ h3, hn b h1, h5⟩
  | mdk ks =>
    obtain ⟨b, h1, h2, h4, h5⟩ := h
    exact ⟨b, h1, ho b h1 _ h2, hn b h1, h5⟩
  | rcv p l q => exact (nr p l q rfl).elim
  | rcm b p l q =>
    obtain ⟨h1, h2, h3, h4⟩ := h
    obtain ⟨dx, fs, vl, vp, f1, f2, f3, f4, f5, f6, f7⟩ := h2.ex
    exact ⟨h1, ⟨dx, fs, vl, vp, ho b rfl _ f1, f2, f3, f4, f5, dp_mono up _ _ f6, f7.mono up⟩, hn b rfl, h4⟩
  | aml b ds =>
    obtain ⟨vs, h1, h2, h3, h4, h5⟩ := h
    exact ⟨vs, h1, ho b rfl _ h2, dps_mono up _ _ h3, hn b rfl, h5⟩
  | st b l cells lefts t =>
    obtain ⟨h1, h2, h3, h4, h5, h6⟩ := h
    exact ⟨h1, h2.ext up (fun u => ho b (.inl rfl) u) (fun u => ho l (.inr rfl) u), hn b (.inl rfl), h4, hn l (.inr rfl), h6⟩
end
/-- the promise of a def that changes what its first arguments (ms) hold; the others are data -/
def SpM (K : PySem.W.Frag) (C : Addr) (Pre : List SK → List PyData → Prop) (Post : List SK → List PyData → PyData → List SK → Prop) : Sp := fun vs H Q _ => ∃ Z Hi us ws ms ds, vs = us ++ ws ∧ Same Z H ∧ SlotsOk K C Z Hi H (us.map some) ms ∧
  (∀ k ∈ ms, (adOf k).isSome = true) ∧ DpAll K Hi ws ds ∧ Pre ms ds ∧ ∀ v Hi' H' d ms', Post ms ds d ms' → FrM Z Hi Hi' H' → SlotsOk K C Z Hi' H' (us.map some) ms' → Dp K Hi' v d → Q v H'
def Fin (Post : List SK → List PyData → PyData → List SK → Prop) (ms : List SK) (ds : List PyData) (d : PyData) (G : List SK) : Prop := ∃ ms', Post ms ds d ms' ∧ ms'.map adOf = ms.map adOf ∧ G.take ms.length = ms'
section
variable {K : PySem.W.Frag} {C : Addr} {Z Hi H : Hp}
theorem slots_startM {N : List Str} {us ws : List V} {ms : List SK} {ds : List PyData} (S : SlotsOk K C Z Hi H (us.map some) ms) (had : ∀ k ∈ ms, (adOf k).isSome = true) (hd : DpAll K Hi ws ds) : SlotsOk K C Z Hi H (L2.start N (us ++ ws)) (ms ++ ds.map SK.dat ++ List.replicate (N.length - (ms.length + ds.length)) .un) := by
  have hl : us.length = ms.length := by
    have := S.len
    rw [List.length_map] at this
    exact this
  have hw := dps_len hd
  have key : ∀ (i : Nat) (k : SK), (ms ++ ds.map SK.dat ++ List.replicate (N.length - (ms.length + ds.length)) SK.un)[i]? = some k → (ms[i]? = some k ∧ (L2.start N (us ++ ws))[i]? = (us.map some)[i]?) ∨ (isMut k = false ∧ SlotOk K C Z Hi H ((L2.start N (us ++ ws))[i]?) k) := fun i k e => by
    by_cases h1 : i < ms.length
    · rw [List.append_assoc, List.getElem?_append_left h1] at e
      refine .inl ⟨e, ?_⟩
      unfold L2.start
      rw [List.map_append, List.append_assoc, List.getElem?_append_left (by rw [List.length_map]; omega)]
    · by_cases h2 : i < ms.length + ds.length
      · rw [List.getElem?_append_left (by rw [List.length_append, List.length_map]; omega), List.getElem?_append_right (by omega)] at e
        obtain ⟨d, hd', rfl⟩ := map_at e
        obtain ⟨v, hv, hdv⟩ := dps_get hd hd'
        refine .inr ⟨rfl, v, ?_, hdv⟩
        unfold L2.start
        rw [List.getElem?_append_left (by rw [List.length_map, List.length_append]; omega), List.getElem?_map, List.getElem?_append_right (by omega), hl, hv]
        rfl
      · rw [List.getElem?_append_right (by rw [List.length_append, List.length_map]; omega)] at e
        have e3 := List.eq_of_mem_replicate (List.mem_of_getElem? e)
        subst e3
        exact .inr ⟨rfl, trivial⟩
  refine ⟨?_, S.sub, fun i k e => ?_, fun i j k l a e1 e2 q1 q2 => ?_⟩
  · unfold L2.start
    simp only [List.length_append, List.length_map, List.length_replicate]
    omega
  · rcases key i k e with ⟨h1, h2⟩ | ⟨_, h⟩
    · rw [h2]
      exact S.ok i k h1
    · exact h
  · rcases key i k e1 with ⟨h1, h2⟩ | ⟨h, _⟩
    · rcases key j l e2 with ⟨h3, h4⟩ | ⟨h, _⟩
      · rw [h2] at q1
        rw [h4] at q2
        exact S.inj i j k l a h1 h3 q1 q2
      · exact (own_no h q2).elim
    · exact (own_no h q1).elim
theorem slots_endM {us : List V} {ms ms' G : List SK} {σ : L2.St} {Hi' H' : Hp} (S : SlotsOk K C Z Hi H (us.map some) ms) (had : ∀ k ∈ ms, (adOf k).isSome = true) (S' : SlotsOk K C Z Hi' H' σ G) (e : ms'.map adOf = ms.map adOf) (ht : G.take ms.length = ms') : SlotsOk K C Z Hi' H' (us.map some) ms' := by
  have hl : ms'.length = ms.length := by
    have := congrArg List.length e
    rw [List.length_map, List.length_map] at this
    exact this
  have key : ∀ (i : Nat) (k : SK), ms'[i]? = some k → G[i]? = some k ∧ ∃ a, adOf k = some a ∧ (us.map some)[i]? = some (some (.ref a)) := fun i k h => by
    have hi : i < ms.length := by
      have := (List.getElem?_eq_some_iff.mp h).1
      omega
    have hG : G[i]? = some k := by
      rw [← ht, List.getElem?_take_of_lt hi] at h
      exact h
    obtain ⟨k0, hk0⟩ := at_some hi
    obtain ⟨a, ha⟩ := Option.isSome_iff_exists.mp (had k0 (List.mem_of_getElem? hk0))
    have ea : adOf k = some a := by
      have := congrArg (fun l => l[i]?) e
      rw [List.getElem?_map, List.getElem?_map, h, hk0] at this
      have z : adOf k = adOf k0 := Option.some.inj this
      rw [z, ha]
    exact ⟨hG, a, ea, slot_ad (S.ok i k0 hk0) ha⟩
  refine ⟨by rw [S.len, hl], S'.sub, fun i k h => ?_, fun i j k l a e1 e2 q1 q2 => ?_⟩
  · obtain ⟨hG, a, ha, hu⟩ := key i k h
    have z := S'.ok i k hG
    rw [slot_ad z ha] at z
    rw [hu]
    exact z
  · obtain ⟨hG, b, hb, _⟩ := key i k e1
    obtain ⟨hG2, c, hc, _⟩ := key j l e2
    exact S'.inj i j k l a hG hG2 (own_ad (by rw [hb]; rfl) q1) (own_ad (by rw [hc]; rfl) q2)
/-- THE CALL: from the caller's slots to the callee's promise -/
theorem spm_of {Pre : List SK → List PyData → Prop} {Post : List SK → List PyData → PyData → List SK → Prop} {σ : L2.St} {G : List SK} {Q : VK} {E : XK} (z : Same Z H) (S : SlotsOk K C Z Hi H σ G) (noR : ∀ (j : Nat) p l q, G[j]? ≠ some (.rcv p l q)) {is : List Nat} {us ws : List V} {ms : List SK} {ds : List PyData} (nd : is.Nodup)
    (hus : us.length = is.length) (hms : ms.length = is.length) (hat : ∀ (j n : Nat), is[j]? = some n → G[n]? = ms[j]? ∧ ∃ v, us[j]? = some v ∧ σ[n]? = some (some v)) (had : ∀ k ∈ ms, (adOf k).isSome = true) (hd : DpAll K Hi ws ds) (hP : Pre ms ds)
    (q : ∀ v Hi' H' d ms', Post ms ds d ms' → ms'.length = ms.length → FrM Z Hi Hi' H' → SlotsOk K C Z Hi' H' σ (setAll G is ms') → Dp K Hi' v d → Q v H') : SpM K C Pre Post (us ++ ws) H Q E := by
  classical
  let F : Addr → Prop := fun b => ∃ (j n : Nat) (k : SK), is[j]? = some n ∧ G[n]? = some k ∧ Own (σ[n]?) k b
  let Z' : Hp := fun b => if F b then none else H b
  have zF : ∀ b, F b → Z' b = none ∧ Z b = none := fun b ⟨j, n, k, h1, h2, h3⟩ => by
    obtain ⟨u, _, _, h6, _⟩ := mut_at (S.ok n k h2) h3
    exact ⟨if_pos ⟨j, n, k, h1, h2, h3⟩, h6⟩
  have zN : ∀ b, ¬ F b → Z' b = H b := fun b h => if_neg h
  have zs : Same Z' H := fun b o h => by
    by_cases hf : F b
    · rw [(zF b hf).1] at h; cases h
    · rw [zN b hf] at h; exact h
  have z0 : ∀ b, Z' b = none → Z b = none := fun b h => by
    by_cases hf : F b
    · exact (zF b hf).2
    · rw [zN b hf] at h
      exact z.free h
  have usAt : ∀ (j n : Nat), is[j]? = some n → (us.map some)[j]? = σ[n]? := fun j n h => by
    obtain ⟨_, v, h1, h2⟩ := hat j n h
    rw [List.getElem?_map, h1, h2]
    rfl
  have isAt : ∀ (j : Nat) (k : SK), ms[j]? = some k → ∃ n, is[j]? = some n ∧ G[n]? = some k := fun j k h => by
    have hj : j < is.length := by
      have := (List.getElem?_eq_some_iff.mp h).1
      omega
    obtain ⟨n, hn⟩ := at_some hj
    exact ⟨n, hn, by rw [(hat j n hn).1, h]⟩
  have SU : SlotsOk K C Z' Hi H (us.map some) ms := by
    refine ⟨by rw [List.length_map, hus, hms], S.sub, fun j k h => ?_, fun i j k l a e1 e2 q1 q2 => ?_⟩
    · obtain ⟨n, h1, h2⟩ := isAt j k h
      rw [usAt j n h1]
      exact slot_z (S.ok n k h2) fun b hb _ => (zF b ⟨j, n, k, h1, h2, hb⟩).1
    · obtain ⟨n, h1, h2⟩ := isAt i k e1
      obtain ⟨m, h3, h4⟩ := isAt j l e2
      rw [usAt i n h1] at q1
      rw [usAt j m h3] at q2
      have e := S.inj n m k l a h2 h4 q1 q2
      subst e
      exact (List.getElem?_inj (by exact (List.getElem?_eq_some_iff.mp h1).1) nd).mp (h1.trans h3.symm)
  refine ⟨Z', Hi, us, ws, ms, ds, rfl, zs, SU, had, hd, hP, fun v Hi' H' d ms' hp f S2 hv => ?_⟩
  have hl' : ms'.length = ms.length := by
    have h1 := S2.len
    have h2 := SU.len
    omega
  have fr : FrM Z Hi Hi' H' := ⟨fun b o h => by
    have hf : ¬ F b := fun hf => by rw [(zF b hf).2] at h; cases h
    exact f.z b o (by rw [zN b hf]; exact z b o h), f.up, fun b o h => (f.new b o h).imp id (z0 b)⟩
  refine q v Hi' H' d ms' hp hl' fr ?_ hv
  have glen : ∀ {n : Nat} {k : SK}, G[n]? = some k → n < G.length := fun h => (List.getElem?_eq_some_iff.mp h).1
  -- an index of the new slots: passed or kept
  have cs : ∀ (n : Nat) (k : SK), (setAll G is ms')[n]? = some k → (∃ j, is[j]? = some n ∧ ms'[j]? = some k) ∨ (n ∉ is ∧ G[n]? = some k) := fun n k h => by
    by_cases hn : n ∈ is
    · obtain ⟨j, hj, e⟩ := List.mem_iff_getElem.mp hn
      have h1 : is[j]? = some n := by rw [List.getElem?_eq_getElem hj, e]
      obtain ⟨k2, hk2⟩ := at_some (l := ms') (i := j) (by omega)
      obtain ⟨k3, hk3⟩ := at_some (l := ms) (i := j) (by omega)
      have := setAll_at is ms' G j n k2 nd h1 hk2 (glen (by rw [(hat j n h1).1]; exact hk3))
      rw [this] at h
      exact .inl ⟨j, h1, by rw [← h]; exact hk2⟩
    · rw [setAll_out is ms' G n hn] at h
      exact .inr ⟨hn, h⟩
  have nF : ∀ (n : Nat) (k : SK) (b : Addr), n ∉ is → G[n]? = some k → Own (σ[n]?) k b → ¬ F b := fun n k b hn hk hb ⟨j, m, l, h1, h2, h3⟩ => by
    have e := S.inj n m k l b hk h2 hb h3
    exact hn (by rw [e]; exact List.mem_of_getElem? h1)
  have oldAt : ∀ (n : Nat) (k : SK) (b : Addr), n ∉ is → G[n]? = some k → Own (σ[n]?) k b → ∃ u, H b = some u ∧ H' b = some u ∧ Hi' b = none := fun n k b hn hk hb => by
    obtain ⟨u, h1, h2, _, _⟩ := mut_at (S.ok n k hk) hb
    have hz : Z' b = some u := by rw [zN b (nF n k b hn hk hb)]; exact h1
    refine ⟨u, h1, f.z b u hz, ?_⟩
    cases e : Hi' b with
    | none => rfl
    | some o =>
      rcases f.new b o e with y | y
      · rw [h2] at y; cases y
      · rw [hz] at y; cases y
  refine ⟨by rw [setAll_len]; exact S.len, S2.sub, fun n k h => ?_, fun i j k l a e1 e2 q1 q2 => ?_⟩
  · rcases cs n k h with ⟨j, h1, h2⟩ | ⟨hn, hk⟩
    · have y := S2.ok j k h2
      rw [usAt j n h1] at y
      exact slot_z y fun b _ hb => z0 b hb
    · exact slot_keep (S.ok n k hk) (fun p l q e => noR n p l q (by rw [hk, e])) f.up (fun b hb u hu => by
        obtain ⟨u', g1, g2, _⟩ := oldAt n k b hn hk hb
        rw [hu] at g1
        rw [Option.some.inj g1]
        exact g2) fun b hb => by
        obtain ⟨_, _, _, g3⟩ := oldAt n k b hn hk hb
        exact g3
  · rcases cs i k e1 with ⟨j1, h1, h2⟩ | ⟨hn, hk⟩
    · rcases cs j l e2 with ⟨j2, h3, h4⟩ | ⟨hn2, hk2⟩
      · rw [← usAt j1 i h1] at q1
        rw [← usAt j2 j h3] at q2
        have e := S2.inj j1 j2 k l a h2 h4 q1 q2
        rw [e, h3] at h1
        exact (Option.some.inj h1).symm
      · rw [← usAt j1 i h1] at q1
        obtain ⟨_, _, _, y, _⟩ := mut_at (S2.ok j1 k h2) q1
        obtain ⟨u, g1, _, _⟩ := oldAt j l a hn2 hk2 q2
        rw [zN a (nF j l a hn2 hk2 q2), g1] at y
        cases y
    · rcases cs j l e2 with ⟨j2, h3, h4⟩ | ⟨hn2, hk2⟩
      · rw [← usAt j2 j h3] at q2
        obtain ⟨_, _, _, y, _⟩ := mut_at (S2.ok j2 l h4) q2
        obtain ⟨u, g1, _, _⟩ := oldAt i k a hn hk q1
        rw [zN a (nF i k a hn hk q1), g1] at y
        cases y
      · exact S.inj i j k l a hk hk2 q1 q2
end
end NL
set_option maxHeartbeats 2000000
/-! Rules for what changes: calls, defs, the law's state, lists, a receiver's field. -/
namespace NL
open PySem PySem.Spec PyProof.Rows L2 StX
def noRB (G : List SK) : Bool := G.all fun k => match k with | .rcv .. => false | _ => true
theorem noR_of {G : List SK} (h : noRB G = true) : ∀ (j : Nat) p l q, G[j]? ≠ some (.rcv p l q) := fun j p l q e => by
  unfold noRB at h
  have := List.all_eq_true.mp h _ (List.mem_of_getElem? e)
  cases this
inductive AtI (G : List SK) : List Nat → List SK → Prop
  | nil : AtI G [] []
  | cons {i : Nat} {k : SK} {is : List Nat} {ms : List SK} : G[i]? = some k → (adOf k).isSome = true → AtI G is ms → AtI G (i :: is) (k :: ms)
theorem AtI.len {G : List SK} : ∀ {is : List Nat} {ms : List SK}, AtI G is ms → ms.length = is.length
  | _, _, .nil => rfl
  | _, _, .cons _ _ t => by rw [List.length_cons, List.length_cons, t.len]
theorem AtI.at_ {G : List SK} : ∀ {is : List Nat} {ms : List SK}, AtI G is ms → ∀ (j n : Nat), is[j]? = some n → G[n]? = ms[j]? ∧ ∃ k, ms[j]? = some k ∧ (adOf k).isSome = true
  | _, _, .nil, _, _, h => by simp at h
  | _, _, .cons h1 h2 _, 0, _, h => by
    cases h
    exact ⟨h1, _, rfl, h2⟩
  | _, _, .cons _ _ t, j + 1, n, h => t.at_ j n h
theorem AtI.ad {G : List SK} : ∀ {is : List Nat} {ms : List SK}, AtI G is ms → ∀ k ∈ ms, (adOf k).isSome = true
  | _, _, .nil, _, h => by cases h
  | _, _, .cons _ h2 t, k, h => by
    rcases List.mem_cons.mp h with e | m
    · rw [e]; exact h2
    · exact t.ad k m
def UsAt (σ : L2.St) (is : List Nat) (us : List V) : Prop := us.length = is.length ∧ ∀ j n : Nat, is[j]? = some n → ∃ v, us[j]? = some v ∧ σ[n]? = some (some v)
def tAM (K : PySem.W.Frag) (C : Addr) (G : List SK) (is : List Nat) (ds : List PyData) : TA := fun σ H Q => ∃ Z Hi, SlotsOk K C Z Hi H σ G ∧ ∀ us ws Hi' H', Ext Hi H Hi' H' → UsAt σ is us → DpAll K Hi' ws ds → Q (us ++ ws) H'
section
variable {X : Cx} {C : Addr} {G : List SK} {e : Expr} {es : List Expr} {pos p q1 q2 : Pos} {d : PyData} {ds dds : List PyData} {is : List Nat} {ms : List SK} {k j : Nat} {x : Str} {M : PyData → List SK → Prop}
  {Pre : List SK → List PyData → Prop} {Post : List SK → List PyData → PyData → List SK → Prop}
theorem am_dt (h : PA X es (tDs X.K C G ds)) : PA X es (tAM X.K C G [] ds) := pa_to h fun σ H Q ⟨Z, Hi, S, q⟩ => ⟨Z, Hi, S, fun ws Hi' H' e hd => q [] ws Hi' H' e ⟨rfl, fun _ _ h => by simp at h⟩ hd⟩
theorem am_sl (i : Nat) {κ : SK} (hk : G[i]? = some κ) (ha : (adOf κ).isSome = true) (hr : PA X es (tAM X.K C G is ds)) (hN : X.N[i]? = some x := by rfl) (hv : Vis X.env.scope x := by first | exact Or.inl rfl | exact Or.inr (Or.inl rfl) | exact Or.inr (Or.inr rfl)) (hd : (x == ("__debug__" : Str)) = false := by decide)
    (hcd : (x == ("__classdict__" : Str)) = false := by decide) (hs : starEach (.Name x p :: es) X.env = (false, eval (.Name x p) X.env) :: starEach es X.env := by rfl) : PA X (.Name x p :: es) (tAM X.K C G (i :: is) ds) :=
  pa_to (pa_cons (pe_var hN hv hd hcd) hr hs) fun σ H Q ⟨Z, Hi, S, q⟩ => by
    obtain ⟨a, ea⟩ := Option.isSome_iff_exists.mp ha
    have h1 := slot_ad (S.ok i κ hk) ea
    refine ⟨.ref a, h1, Z, Hi, S, fun us ws Hi' H' e hus hd => ?_⟩
    exact q (.ref a :: us) ws Hi' H' e ⟨by rw [List.length_cons, List.length_cons, hus.1], fun j n h => by
      cases j with
      | zero => cases h; exact ⟨_, rfl, h1⟩
      | succ j => exact hus.2 j n h⟩ hd
/-- f(..), f changing what it is given -/
theorem te_call (c : CalG X.prog X.w X.K X.mg X.base k x (SpM X.K C Pre Post)) (hgd : X.A.guards = some []) (hr : Room j X.A) (ha : PA X (e :: es) (tAM X.K C G is ds)) (at_ : AtI G is ms) (hP : Pre ms ds) (hM : ∀ d ms', Post ms ds d ms' → ms'.length = ms.length → M d (setAll G is ms')) (nR : noRB G = true := by rfl) (nd : is.Nodup := by decide) (hk : k ≤ j := by decide)
    (hg : Gl X x := by rfl) (hdb : (x == ("__debug__" : Str)) = false := by decide) (he : starEach (e :: es) X.env = (false, eval e X.env) :: starEach es X.env := by rfl) (hpl : (backTo pos (starEach es X.env)).any (·.1) = false := by rfl) : PE X (.Call (.Name x p) (e :: es) [] pos) (tE X.K C G M) :=
  pe_to (pe_callG c hgd (hr.mono hk) ha hg hdb he hpl) fun σ H Q ⟨Z, Hi, z, S, q⟩ => ⟨Z, Hi, S, fun us ws Hi1 H1 e1 hus hd =>
    spm_of (z.trans e1.same) (S.ext e1) (noR_of nR) nd hus.1 at_.len (fun j n h => ⟨(at_.at_ j n h).1, hus.2 j n h⟩) at_.ad hd hP fun v Hi' H' d ms' hp hl f S' hv => q v Hi' H' d _ (hM d ms' hp hl) ((FrM.ext z e1).trans f) S' hv⟩
end
/-- a method that changes its receiver, by its name; dds: its defaults -/
structure MetM (P : Program) (w : World) (K : PySem.W.Frag) (mg : Str → Option Value) (base : Heap) (C : Addr) (k : Nat) (m : Str) (dds : List PyData) (Pre : List SK → List PyData → Prop) (Post : List SK → List PyData → PyData → List SK → Prop) : Prop where
  ex : ∃ (f : Addr) (fd : FuncData) (ps : List Str) (dsv : List Value) (dvs : List V), FnOk P w K mg base CX0 k f fd ps (SpM K C Pre Post) ∧ Meth K C m f ∧ Binds K fd ps dsv ∧ Vals dvs dsv ∧ ∀ Hi : Hp, DpAll K Hi dvs dds
section
variable {X : Cx} {C : Addr} {G : List SK} {e : Expr} {es : List Expr} {pos p q1 q2 : Pos} {d lay past : PyData} {ds dds : List PyData} {k j n : Nat} {x m : Str} {M : PyData → List SK → Prop} {a : Addr} {pr : Int}
  {Pre : List SK → List PyData → Prop} {Post : List SK → List PyData → PyData → List SK → Prop}
theorem rcm_run {K : PySem.W.Frag} {Z Hi H : Hp} {σ : L2.St} {Q : VK} {E : XK} {ws : List V} (z : Same Z H) (S : SlotsOk K C Z Hi H σ G) (nR : noRB G = true) (hk : G[n]? = some (.rcm a pr lay past)) (hd : DpAll K Hi ws ds) (hP : Pre [.rcm a pr lay past] ds)
    (q : ∀ v Hi' H' d k', Post [.rcm a pr lay past] ds d [k'] → FrM Z Hi Hi' H' → SlotsOk K C Z Hi' H' σ (G.set n k') → Dp K Hi' v d → Q v H') : SpM K C Pre Post (.ref a :: ws) H Q E :=
  spm_of (us := [.ref a]) (is := [n]) (ms := [.rcm a pr lay past]) z S (noR_of nR) (by simp) rfl rfl (fun j i h => by
    cases j with
    | zero =>
      cases h
      exact ⟨hk, .ref a, rfl, (S.ok n _ hk).1⟩
    | succ j => simp at h) (fun k h => by rw [List.mem_singleton.mp h]; rfl) hd hP fun v Hi' H' d ms' hp hl f S' hv => by
    match ms', hl with
    | [k'], _ => exact q v Hi' H' d k' hp f S' hv
/-- o.m(..), o one's own receiver -/
theorem te_meth (n : Nat) {pl : Sem Bool} (T : Rcls X.K C) (c : MetM X.prog X.w X.K X.mg X.base C k m dds Pre Post) (hr : Room j X.A) (hk : G[n]? = some (.rcm a pr lay past)) (ha : PA X (e :: es) (tDs X.K C G ds)) (hP : Pre [.rcm a pr lay past] (ds ++ dds)) (hM : ∀ d k', Post [.rcm a pr lay past] (ds ++ dds) d [k'] → M d (G.set n k'))
    (nR : noRB G = true := by rfl) (hkj : k ≤ j := by decide) (hm : m ∉ flds := by decide)
    (hN : X.N[n]? = some x := by rfl) (hv : Vis X.env.scope x := by first | exact Or.inl rfl | exact Or.inr (Or.inl rfl) | exact Or.inr (Or.inr rfl)) (hd : (x == ("__debug__" : Str)) = false := by decide) (hcd : (x == ("__classdict__" : Str)) = false := by decide)
    (hst : starEach (e :: es) X.env = (false, eval e X.env) :: starEach es X.env := by rfl) (hpl : (backTo pos (starEach es X.env)).any (·.1) = false := by rfl)
    (ht : eval (.Call (.Attribute (.Name x q1) m q2) (e :: es) [] pos) X.env = (do
      let ov ← eval (.Name x q1) X.env
      standAt q2.atName
      let (f, first) ← holding [ov] (getMethod ov m pl)
      callWith pos f first (backTo pos (starEach (e :: es) X.env)) (backToKw pos (keywordEach [] X.env))) := by rfl) : PE X (.Call (.Attribute (.Name x q1) m q2) (e :: es) [] pos) (tE X.K C G M) :=
  let ⟨_, _, _, _, _, F, hM2, b, hvd, hdd⟩ := c.ex
  pe_to (pe_meth (pe_var hN hv hd hcd) T.cls hM2 F (hr.mono hkj) b hvd pass0 ha hst hpl ht) fun σ H Q ⟨Z, Hi, z, S, q⟩ => by
    obtain ⟨h1, h2, _⟩ := S.ok n _ hk
    obtain ⟨a', dx, fs, z1, z2, z3⟩ := rcv_call h2 hm
    refine ⟨.ref a, h1, a', dx, fs, z1, z2, z3, Z, Hi, S, fun vs Hi1 H1 e1 hvs => ?_⟩
    exact rcm_run (E := E0) (z.trans e1.same) (S.ext e1) nR hk (dps_app hvs (hdd Hi1)) hP fun v Hi' H' d k' hp f S' hv => q v Hi' H' d _ (hM d k' hp) ((FrM.ext z e1).trans f) S' hv
theorem te_meth0 (n : Nat) {pl : Sem Bool} (T : Rcls X.K C) (c : MetM X.prog X.w X.K X.mg X.base C k m dds Pre Post) (hr : Room j X.A) (hk : G[n]? = some (.rcm a pr lay past)) (hP : Pre [.rcm a pr lay past] dds) (hM : ∀ d k', Post [.rcm a pr lay past] dds d [k'] → M d (G.set n k'))
    (nR : noRB G = true := by rfl) (hkj : k ≤ j := by decide) (hm : m ∉ flds := by decide)
    (hN : X.N[n]? = some x := by rfl) (hv : Vis X.env.scope x := by first | exact Or.inl rfl | exact Or.inr (Or.inl rfl) | exact Or.inr (Or.inr rfl)) (hd : (x == ("__debug__" : Str)) = false := by decide) (hcd : (x == ("__classdict__" : Str)) = false := by decide)
    (ht : eval (.Call (.Attribute (.Name x q1) m q2) [] [] pos) X.env = (do
      let ov ← eval (.Name x q1) X.env
      standAt q2.atName
      let (f, first) ← holding [ov] (getMethod ov m pl)
      callWith pos f first (backTo pos (starEach [] X.env)) (backToKw pos (keywordEach [] X.env))) := by rfl) : PE X (.Call (.Attribute (.Name x q1) m q2) [] [] pos) (tE X.K C G M) :=
  let ⟨_, _, _, _, _, F, hM2, b, hvd, hdd⟩ := c.ex
  pe_to (pe_meth0 (pe_var hN hv hd hcd) T.cls hM2 F (hr.mono hkj) b hvd pass0 ht) fun σ H Q ⟨Z, Hi, z, S, q⟩ => by
    obtain ⟨h1, h2, _⟩ := S.ok n _ hk
    obtain ⟨a', dx, fs, z1, z2, z3⟩ := rcv_call h2 hm
    refine ⟨.ref a, h1, a', dx, fs, z1, z2, z3, ?_⟩
    exact rcm_run (E := E0) z S nR hk (hdd Hi) hP fun v Hi' H' d k' hp f S' hv => q v Hi' H' d _ (hM d k' hp) f S' hv
theorem len_putF_old {f : Str} {v : V} : ∀ {fs : List (Str × V)} {u : V}, fs.lookup f = some u → (putF f v fs).length = fs.length
  | [], _, h => by simp at h
  | (g, y) :: r, u, h => by
    unfold putF
    by_cases e : g = f
    · rw [if_pos e]
      rfl
    · rw [if_neg e, List.length_cons, List.length_cons]
      rw [List.lookup_cons, show (f == g) = false from by simpa using fun z => e z.symm] at h
      rw [len_putF_old h]
/-- an expression that gives what a receiver remembers -/
def tPast (K : PySem.W.Frag) (C : Addr) (G : List SK) (d : PyData) : TE := fun σ H Q => ∃ Z Hi, SlotsOk K C Z Hi H σ G ∧ ∀ v Hi' H', Ext Hi H Hi' H' → PastAt K Hi' v d → Q v H'
/-- o.own_past = e -/
theorem sm_fset (n : Nat) {N : List SK → Prop} {R : PyData → List SK → Prop} (T : Rcls X.K C) (hk : G[n]? = some (.rcm a pr lay past)) (he : PE X e (tPast X.K C G d)) (hn : N (G.set n (.rcm a pr lay d))) (nR : noRB G = true := by rfl) (hN : X.N[n]? = some x := by rfl) (hv : Vis X.env.scope x := by first | exact Or.inl rfl | exact Or.inr (Or.inl rfl) | exact Or.inr (Or.inr rfl)) (hd : (x == ("__debug__" : Str)) = false := by decide) (hcd : (x == ("__classdict__" : Str)) = false := by decide)
    (hs : swapsWith e (some (.Attribute (.Name x q1) "own_past" q2)) pos.line X.env = pure false := by rfl) : PS X (.Assign [.Attribute (.Name x q1) "own_past" q2] e pos) (tM X.K C G N R) :=
  ps_to (ps_fld (pe_var hN hv hd hcd) he hs) fun D σ H ⟨Z, Hi0, Hi, f, S, q1, q2⟩ => ⟨Z, Hi, S, fun v Hi1 H1 e1 hvd => by
    have S1 := S.ext e1
    obtain ⟨h1, h2, h3, h4⟩ := S1.ok n _ hk
    obtain ⟨dx, fs, vl, vp, g1, g2, g3, g4, g5, g6, g7⟩ := h2.ex
    have hup : ∀ m : Str, m ≠ "own_past" → (putF "own_past" v fs).lookup m = fs.lookup m := fun m hm => by rw [lookup_putF, if_neg hm]
    refine ⟨.ref a, h1, a, C, dx, fs, rfl, g1, T.cls, T.nh, by have := g2.2; omega, ?_⟩
    refine q1 _ _ Hi1 _ hn e1.up ((f.ext e1).chg h4) (S1.chg hk rfl (fun _ z => z) (.inr (noR_of nR)) ⟨h1, ⟨dx, putF "own_past" v fs, vl, v, upd_same, ⟨by rw [hup _ (by decide)]; exact g2.1, by rw [len_putF_old g4]; exact g2.2⟩, by rw [hup _ (by decide)]; exact g3, by rw [lookup_putF, if_pos rfl], fun m hm => ?_, g6, hvd⟩, h3, h4⟩)
    rw [hup m (fun z => hm (by rw [z]; decide))]
    exact g5 m hm⟩
end
end NL
set_option maxHeartbeats 2000000
/-! Rules for what changes: defs, the law's state, lists. -/
namespace NL
open PySem PySem.Spec PyProof.Rows L2 StX
section
variable {P : Program} {w : World} {K : PySem.W.Frag} {mg : Str → Option Value} {base : Heap} {C : Addr} {Pre : List SK → List PyData → Prop} {Post : List SK → List PyData → PyData → List SK → Prop}
theorem sm_len {vs : List V} {H : Hp} {Q : VK} {E : XK} {n : Nat} (hl : ∀ ms ds, Pre ms ds → ms.length + ds.length = n) (h : SpM K C Pre Post vs H Q E) : vs.length = n := by
  obtain ⟨Z, Hi, us, ws, ms, ds, rfl, z, S0, had, hd, hP, q⟩ := h
  have h1 := S0.len
  have h2 := dps_len hd
  rw [List.length_map] at h1
  rw [List.length_append, h1, h2]
  exact hl ms ds hP
theorem sm_body {X : Cx} {N : List Str} {vs : List V} {H : Hp} {Q : VK} {E : XK} {body : List Stmt} (h : SpM X.K C Pre Post vs H Q E) (hb : ∀ ms ds, Pre ms ds → PSs X.nox body (tM X.K C (ms ++ ds.map SK.dat ++ List.replicate (N.length - (ms.length + ds.length)) .un) (Fin Post ms ds .none) (Fin Post ms ds))) :
    ∃ t, PSs X body t ∧ t { nx := fun _ H' => Q .non H', rt := Q } (L2.start N vs) H := by
  obtain ⟨Z, Hi, us, ws, ms, ds, rfl, z, S0, had, hd, hP, q⟩ := h
  refine ⟨_, (hb ms ds hP).nox, Z, Hi, Hi, ⟨z, Same.refl _, fun b o y => .inl y⟩, slots_startM S0 had hd, fun G' σ' Hi' H' ⟨ms', hp, e, ht⟩ _ f' S' => ?_, fun d v G' σ' Hi' H' ⟨ms', hp, e, ht⟩ f' S' hv => ?_⟩
  · exact q .non Hi' H' .none ms' hp ⟨f'.z, f'.up, f'.new⟩ (slots_endM S0 had S' e ht) .non
  · exact q v Hi' H' d ms' hp ⟨f'.z, f'.up, f'.new⟩ (slots_endM S0 had S' e ht) hv
theorem cal_sm {x : Str} {st : Stmt} {f : Addr} {fd : FuncData} {N ps : List Str} {k : Nat} (F : FnP K x x st [] f fd) (hm : mg x = some (.ref f)) (S : FnScope N ps (defScope st))
    (hbd : ∀ (kV doc pm : Value) (an : Option Addr) (cdv ct : Value) (us : List Value), us.length = ps.length → bindArgs (PySem.W.fnOf x x (defArgs st) (defBody st) (defScope st) .none kV doc pm an cdv ct) ⟨us, []⟩ = pure (ps.zip us))
    (hl : ∀ ms ds, Pre ms ds → ms.length + ds.length = ps.length)
    (hb : ∀ (cdv : Value) (A : Around) (outer : List Env) (s : Shared) (H : Hp) (E : XK) (ms : List SK) (ds : List PyData), A.guards = some [] → Room k (A.deeper (envOfC x (defScope st) s.heap.objs.size f cdv)) → Pre ms ds →
      PSs (cxOf CX0 P w K mg base N x (defScope st) f cdv A outer s H E).nox (defBody st) (tM K C (ms ++ ds.map SK.dat ++ List.replicate (N.length - (ms.length + ds.length)) .un) (Fin Post ms ds .none) (Fin Post ms ds))) : CalG P w K mg base (k + 1) x (SpM K C Pre Post) :=
  ⟨f, fd, ps, fn_g F S (fun vs H Q E h => sm_len hl h) (fun cdv A outer s H vs Q E hg hr h => sm_body h fun ms ds hP => hb cdv A outer s H E ms ds hg hr hP), hm, F.kp, F.bindsN hbd⟩
theorem met_sm {m qual : Str} {st : Stmt} {dvs : List V} {f : Addr} {fd : FuncData} {N ps : List Str} {k : Nat} {dds : List PyData} {dsv : List Value} (F : FunD K m qual (defArgs st) (defBody st) (defScope st) dvs [] f fd) (hm : Meth K C m f) (S : FnScope N ps (defScope st)) (hbd : Binds K fd ps dsv) (hvd : Vals dvs dsv) (hdd : ∀ Hi : Hp, DpAll K Hi dvs dds)
    (hl : ∀ ms ds, Pre ms ds → ms.length + ds.length = ps.length)
    (hb : ∀ (cdv : Value) (A : Around) (outer : List Env) (s : Shared) (H : Hp) (E : XK) (ms : List SK) (ds : List PyData), Room k (A.deeper (envOfC qual (defScope st) s.heap.objs.size f cdv)) → Pre ms ds →
      PSs (cxOf CX0 P w K mg base N qual (defScope st) f cdv A outer s H E).nox (defBody st) (tM K C (ms ++ ds.map SK.dat ++ List.replicate (N.length - (ms.length + ds.length)) .un) (Fin Post ms ds .none) (Fin Post ms ds))) : MetM P w K mg base C (k + 1) m dds Pre Post :=
  ⟨f, fd, ps, dsv, dvs, F.ok S (fun vs H Q E h => sm_len hl h) (fun cdv A outer s H vs Q E hr h => sm_body h fun ms ds hP => hb cdv A outer s H E ms ds hr hP), hm, hbd, hvd, hdd⟩
end
section
variable {X : Cx} {C : Addr} {G : List SK} {e ix : Expr} {es : List Expr} {pos p q q1 q2 q3 : Pos} {d : PyData} {ds : List PyData} {a l : Addr} {cells lefts : List Int} {t v : Int} {x : Str} {N : List SK → Prop} {R : PyData → List SK → Prop} {n k : Nat}
/-! ### the law's state -/
theorem hu_of {m : Nat} (hr : Room m X.A) : X.A.units + 1 < cLine := by have := hr.units; omega
theorem pd_stAt (i : Nat) {c : Nat} (hr : Room n X.A) (hk : G[i]? = some (.st a l cells lefts t)) (hN : X.N[i]? = some x := by rfl) (hv : Vis X.env.scope x := by first | exact Or.inl rfl | exact Or.inr (Or.inl rfl) | exact Or.inr (Or.inr rfl)) (hd : (x == ("__debug__" : Str)) = false := by decide) (hcd : (x == ("__classdict__" : Str)) = false := by decide) :
    PE X (.Subscript (.Name x q1) (.Constant (.str "at") c q2) pos) (tD X.K C G (.int t)) :=
  pe_to (pe_dget (hu_of hr) (pe_var hN hv hd hcd) pe_str fun _ _ => rfl) fun σ H Q ⟨Z, Hi, S, q⟩ => by
    obtain ⟨h1, h2, h3, h4, h5, h6⟩ := S.ok i _ hk
    obtain ⟨cv, g1, g2, g3⟩ := h2.ex
    exact ⟨.ref a, h1, a, .int t, rfl, DGet.k (k := Sum.inr ("at" : Str)) g1, q _ Hi H (Ext.refl S.sub) (.int t)⟩
theorem pd_stCells (i : Nat) {c : Nat} (hr : Room n X.A) (hk : G[i]? = some (.st a l cells lefts t)) (hN : X.N[i]? = some x := by rfl) (hv : Vis X.env.scope x := by first | exact Or.inl rfl | exact Or.inr (Or.inl rfl) | exact Or.inr (Or.inr rfl)) (hd : (x == ("__debug__" : Str)) = false := by decide) (hcd : (x == ("__classdict__" : Str)) = false := by decide) :
    PE X (.Subscript (.Name x q1) (.Constant (.str "cells") c q2) pos) (tD X.K C G (dL cells)) :=
  pe_to (pe_dget (hu_of hr) (pe_var hN hv hd hcd) pe_str fun _ _ => rfl) fun σ H Q ⟨Z, Hi, S, q⟩ => by
    obtain ⟨h1, h2, h3, h4, h5, h6⟩ := S.ok i _ hk
    obtain ⟨cv, g1, g2, g3⟩ := h2.ex
    exact ⟨.ref a, h1, a, cv, rfl, DGet.k (k := Sum.inr ("cells" : Str)) g1, q _ Hi H (Ext.refl S.sub) g2⟩
theorem pd_stLeft (i : Nat) {c : Nat} {j : Int} {m : Nat} (hr : Room n X.A) (hk : G[i]? = some (.st a l cells lefts t)) (hj : PE X ix (tD X.K C G (.int j))) (h : atI lefts j = some v) (hp : PlainIx ix := by exact fun _ _ => rfl) (hN : X.N[i]? = some x := by rfl) (hv : Vis X.env.scope x := by first | exact Or.inl rfl | exact Or.inr (Or.inl rfl) | exact Or.inr (Or.inr rfl)) (hd : (x == ("__debug__" : Str)) = false := by decide) (hcd : (x == ("__classdict__" : Str)) = false := by decide) :
    PE X (.Subscript (.Subscript (.Name x q1) (.Constant (.str "lefts") c q2) q3) ix pos) (tD X.K C G (.int v)) :=
  pe_to (pe_ix ix_list (pe_dget (hu_of hr) (pe_var hN hv hd hcd) pe_str fun _ _ => rfl) hj hp) fun σ H Q ⟨Z, Hi, S, q⟩ => by
    obtain ⟨h1, h2, h3, h4, h5, h6⟩ := S.ok i _ hk
    obtain ⟨cv, g1, g2, g3⟩ := h2.ex
    refine ⟨.ref a, h1, a, .ref l, rfl, DGet.k (k := Sum.inr ("lefts" : Str)) g1, Z, Hi, S, fun w Hi1 H1 e1 hw => ?_⟩
    refine ⟨l, lefts.map V.int, j, .int v, rfl, dp_int hw, SqL.of (e1.same _ _ g3), ?_, q _ Hi1 H1 e1 (.int v)⟩
    unfold atI at h ⊢
    rw [List.length_map]
    cases e : ixN lefts.length j with
    | none => rw [e] at h; cases h
    | some m =>
      rw [e] at h
      show (lefts.map V.int)[m]? = _
      have h' : lefts[m]? = some v := h
      rw [List.getElem?_map, h']
      rfl
theorem sm_stAt (i : Nat) {c : Nat} {u : Int} (hr : Room n X.A) (hk : G[i]? = some (.st a l cells lefts t)) (he : PE X e (tD X.K C G (.int u))) (hn : N (G.set i (.st a l cells lefts u))) (hN : X.N[i]? = some x := by rfl) (hv : Vis X.env.scope x := by first | exact Or.inl rfl | exact Or.inr (Or.inl rfl) | exact Or.inr (Or.inr rfl)) (hd : (x == ("__debug__" : Str)) = false := by decide) (hcd : (x == ("__classdict__" : Str)) = false := by decide)
    (hs : swapsWith e (some (.Subscript (.Name x q1) (.Constant (.str "at") c q2) q3)) pos.line X.env = pure false := by rfl) : PS X (.Assign [.Subscript (.Name x q1) (.Constant (.str "at") c q2) q3] e pos) (tM X.K C G N R) :=
  ps_to (ps_dput (hu_of hr) (pe_var hN hv hd hcd) pe_str he hs) fun D σ H ⟨Z, Hi0, Hi, f, S, r1, r2⟩ => ⟨Z, Hi, S, fun v Hi1 H1 e1 hvd => by
    obtain rfl := dp_int hvd
    have S1 := S.ext e1
    obtain ⟨h1, h2, h3, h4, h5, h6⟩ := S1.ok i _ hk
    obtain ⟨cv, g1, g2, g3⟩ := h2.ex
    have la : l ≠ a := fun z => by
      rw [z, g1] at g3
      cases g3
    refine ⟨.ref a, h1, a, _, rfl, DPut.k (k := Sum.inr ("at" : Str)) g1 (by show 4 < sizeLine; decide), ?_⟩
    exact r1 _ _ Hi1 _ hn e1.up ((f.ext e1).chg h4) (S1.chg hk (.inl rfl) (fun _ z => z) (.inl fun _ _ _ _ z => nomatch z) ⟨h1, ⟨cv, upd_same, g2, by rw [upd_ne la]; exact g3⟩, h3, h4, h5, h6⟩)⟩
theorem sm_stLeft (i : Nat) {c : Nat} {u j : Int} {m : Nat} (hr : Room n X.A) (hk : G[i]? = some (.st a l cells lefts t)) (he : PE X e (tD X.K C G (.int u))) (hj : PE X ix (tD X.K C G (.int j))) (hb : ixN lefts.length j = some m) (hn : N (G.set i (.st a l cells (lefts.set m u) t))) (hN : X.N[i]? = some x := by rfl) (hv : Vis X.env.scope x := by first | exact Or.inl rfl | exact Or.inr (Or.inl rfl) | exact Or.inr (Or.inr rfl)) (hd : (x == ("__debug__" : Str)) = false := by decide) (hcd : (x == ("__classdict__" : Str)) = false := by decide)
    (hs : swapsWithSole [.Subscript (.Subscript (.Name x q1) (.Constant (.str "lefts") c q2) q3) ix q] e pos.line X.env = pure false := by rfl) (hw : swappedStores [.Subscript (.Subscript (.Name x q1) (.Constant (.str "lefts") c q2) q3) ix q] e X.env = pure none := by rfl) (h1 : (assignEach [.Subscript (.Subscript (.Name x q1) (.Constant (.str "lefts") c q2) q3) ix q] X.env).map (·.2) = [assign (.Subscript (.Subscript (.Name x q1) (.Constant (.str "lefts") c q2) q3) ix q) X.env] := by rfl)
    (ha : ∀ v, assign (.Subscript (.Subscript (.Name x q1) (.Constant (.str "lefts") c q2) q3) ix q) X.env v = (do
      let ov ← holding [v] (eval (.Subscript (.Name x q1) (.Constant (.str "lefts") c q2) q3) X.env)
      let iv ← holding [v, ov] (eval ix X.env)
      standAt q
      holding [v, ov, iv] (setItem ov iv v)
      release [v, ov, iv] []) := by intro _; rfl) :
    PS X (.Assign [.Subscript (.Subscript (.Name x q1) (.Constant (.str "lefts") c q2) q3) ix q] e pos) (tM X.K C G N R) :=
  ps_to (ps_asg he (pg_sub (pe_dget (hu_of hr) (pe_var hN hv hd hcd) pe_str fun _ _ => rfl) hj set_list ha) hs hw h1) fun D σ H ⟨Z, Hi0, Hi, f, S, r1, r2⟩ => ⟨Z, Hi, S, fun v Hi1 H1 e1 hvd => by
    obtain rfl := dp_int hvd
    have S1 := S.ext e1
    obtain ⟨h1, h2, h3, h4, h5, h6⟩ := S1.ok i _ hk
    obtain ⟨cv, g1, g2, g3⟩ := h2.ex
    refine ⟨.ref a, h1, a, .ref l, rfl, DGet.k (k := Sum.inr ("lefts" : Str)) g1, Z, Hi1, S1, fun w Hi2 H2 e2 hw => ?_⟩
    have S2 := S1.ext e2
    obtain ⟨k1, k2, k3, k4, k5, k6⟩ := S2.ok i _ hk
    obtain ⟨cv2, y1, y2, y3⟩ := k2.ex
    have la : a ≠ l := fun z => by
      rw [← z, y1] at y3
      cases y3
    refine ⟨l, lefts.map V.int, j, m, rfl, dp_int hw, y3, by rw [List.length_map]; exact hb, ?_⟩
    rw [show (lefts.map V.int).set m (.int u) = (lefts.set m u).map V.int from (List.map_set ..).symm]
    exact r1 _ _ Hi2 _ hn (e1.trans e2).up ((f.ext (e1.trans e2)).chg k6) (S2.chg hk (.inr rfl) (fun _ z => z) (.inl fun _ _ _ _ z => nomatch z) ⟨k1, ⟨cv2, by rw [upd_ne la]; exact y1, y2, upd_same⟩, k3, k4, k5, k6⟩)⟩
/-! ### a list given to be changed -/
theorem pd_amAt (i : Nat) {j : Int} (hk : G[i]? = some (.aml a ds)) (hj : PE X ix (tD X.K C G (.int j))) (h : atI ds j = some d) (hN : X.N[i]? = some x := by rfl)
    (hv : Vis X.env.scope x := by first | exact Or.inl rfl | exact Or.inr (Or.inl rfl) | exact Or.inr (Or.inr rfl)) (hd : (x == ("__debug__" : Str)) = false := by decide) (hcd : (x == ("__classdict__" : Str)) = false := by decide) (hp : PlainIx ix := by exact fun _ _ => rfl) : PE X (.Subscript (.Name x q1) ix pos) (tD X.K C G d) :=
  pe_to (pe_ix ix_list (pe_var hN hv hd hcd) hj hp) fun σ H Q ⟨Z, Hi, S, q⟩ => by
    obtain ⟨vs, h1, h2, h3, h4, h5⟩ := S.ok i _ hk
    refine ⟨.ref a, h1, Z, Hi, S, fun w Hi1 H1 e1 hw => ?_⟩
    obtain ⟨v, hv, hdv⟩ := dps_atI (dps_mono e1.up _ _ h3) h
    exact ⟨a, vs, j, v, rfl, dp_int hw, SqL.of (e1.same _ _ h2), hv, q v Hi1 H1 e1 hdv⟩
theorem pd_amLen (i : Nat) (hm : X.mg "len" = none) (hk : G[i]? = some (.aml a ds)) (hN : X.N[i]? = some x := by rfl)
    (hv : Vis X.env.scope x := by first | exact Or.inl rfl | exact Or.inr (Or.inl rfl) | exact Or.inr (Or.inr rfl)) (hd : (x == ("__debug__" : Str)) = false := by decide) (hcd : (x == ("__classdict__" : Str)) = false := by decide) (hg : Gl X "len" := by rfl) (he : starEach [.Name x q1] X.env = (false, eval (.Name x q1) X.env) :: starEach [] X.env := by rfl) :
    PE X (.Call (.Name "len" q) [.Name x q1] [] pos) (tD X.K C G (.int ds.length)) :=
  pe_to (pe_callB call_len_seq hg hm PySem.boot_len (pa_cons (pe_var hN hv hd hcd) pa_nil he) (by decide) (by decide) he (by rfl)) fun σ H Q ⟨Z, Hi, S, q⟩ => by
    obtain ⟨vs, h1, h2, h3, h4, h5⟩ := S.ok i _ hk
    refine ⟨.ref a, h1, a, vs, rfl, .inl (SqL.of h2), ?_⟩
    rw [dps_len h3]
    exact q _ Hi H (Ext.refl S.sub) (.int _)
theorem sm_amApp (i : Nat) (hk : G[i]? = some (.aml a ds)) (he : PE X e (tD X.K C G d)) (hl : ds.length < sizeLine) (hn : N (G.set i (.aml a (ds ++ [d])))) (hN : X.N[i]? = some x := by rfl) (hv : Vis X.env.scope x := by first | exact Or.inl rfl | exact Or.inr (Or.inl rfl) | exact Or.inr (Or.inr rfl)) (hd : (x == ("__debug__" : Str)) = false := by decide)
    (hcd : (x == ("__classdict__" : Str)) = false := by decide)
    (hst : starEach [e] X.env = (false, eval e X.env) :: starEach [] X.env := by rfl)
    (hbase : attributeBase (.Name x q1) "append" X.env (eval (.Name x q1) X.env) = eval (.Name x q1) X.env := by rfl)
    (hfew : ((backTo q3 (starEach [e] X.env)).all (fun x => !x.1) && (backToKw q3 (keywordEach [] X.env)).all (fun x => x.1.isSome)
      && decide (([e] : List Expr).length + ([] : List Keyword).length + (if ([] : List Keyword).isEmpty then 0 else 1) < 30)) = true := by rfl)
    (hline : (q2.endLine == q3.line) = true := by rfl)
    (hs : swapsWith (.Call (.Attribute (.Name x q1) "append" q2) [e] [] q3) none pos.line X.env = pure false := by rfl) :
    PS X (.Expr (.Call (.Attribute (.Name x q1) "append" q2) [e] [] q3) pos) (tM X.K C G N R) :=
  ps_to (ps_expr (pe_bm PySem.F.plainAttrs_list PySem.F.slot_list_append PySem.F.type_list_append mt_append (pe_var hN hv hd hcd) (pa_cons he pa_nil hst) hbase hfew hline hst (by rfl)) hs) fun D σ H ⟨Z, Hi0, Hi, f, S, r1, r2⟩ => by
    obtain ⟨vs, h1, h2, h3, h4, h5⟩ := S.ok i _ hk
    refine ⟨.ref a, h1, .inl ⟨rfl, _, SqL.of h2⟩, Z, Hi, S, fun v Hi1 H1 e1 hv => ?_⟩
    have S1 := S.ext e1
    refine ⟨a, vs, v, rfl, rfl, e1.same _ _ h2, by rw [dps_len h3]; exact hl, ?_⟩
    exact r1 _ _ Hi1 _ hn e1.up ((f.ext e1).chg h5) (S1.chg hk rfl (fun _ z => z) (.inl fun _ _ _ _ z => nomatch z) ⟨_, h1, upd_same, dps_app (dps_mono e1.up _ _ h3) (.cons hv .nil), e1.fresh h2 h4, h5⟩)
theorem sm_amPop (i : Nat) (hk : G[i]? = some (.aml a ds)) (hne : ds ≠ []) (hn : N (G.set i (.aml a ds.dropLast))) (hN : X.N[i]? = some x := by rfl) (hv : Vis X.env.scope x := by first | exact Or.inl rfl | exact Or.inr (Or.inl rfl) | exact Or.inr (Or.inr rfl)) (hd : (x == ("__debug__" : Str)) = false := by decide)
    (hcd : (x == ("__classdict__" : Str)) = false := by decide)
    (hbase : attributeBase (.Name x q1) "pop" X.env (eval (.Name x q1) X.env) = eval (.Name x q1) X.env := by rfl)
    (hline : (q2.endLine == q3.line) = true := by rfl)
    (hs : swapsWith (.Call (.Attribute (.Name x q1) "pop" q2) [] [] q3) none pos.line X.env = pure false := by rfl) :
    PS X (.Expr (.Call (.Attribute (.Name x q1) "pop" q2) [] [] q3) pos) (tM X.K C G N R) :=
  ps_to (ps_expr (pe_bm0 PySem.F.plainAttrs_list PySem.F.slot_list_pop PySem.F.type_list_pop (mt_pop) (pe_var hN hv hd hcd) hbase hline) hs) fun D σ H ⟨Z, Hi0, Hi, f, S, r1, r2⟩ => by
    obtain ⟨vs, h1, h2, h3, h4, h5⟩ := S.ok i _ hk
    have hl := dps_len h3
    have hpos : 0 < vs.length := by
      rw [hl]
      exact List.length_pos_iff.mpr hne
    obtain ⟨y, hy⟩ := at_some (l := vs) (i := vs.length - 1) (by omega)
    have hdrop : DpAll X.K Hi vs.dropLast ds.dropLast := by
      rw [List.dropLast_eq_take, List.dropLast_eq_take, hl]
      exact dps_take _ h3
    refine ⟨.ref a, h1, .inl ⟨rfl, _, SqL.of h2⟩, a, vs, y, rfl, rfl, h2, hy, ?_⟩
    exact r1 _ _ Hi _ hn (Same.refl _) (f.chg h5) (S.chg hk rfl (fun _ z => z) (.inl fun _ _ _ _ z => nomatch z) ⟨_, h1, upd_same, hdrop, h4, h5⟩)
end
end NL
set_option maxHeartbeats 2000000
/-! The machine's rules lacking: tuple(list) with what the new tuple is; dict(tuple of pairs). -/
namespace NL
open PySem PySem.Spec PyProof.Rows L2 StX
section
variable {X : Cx}
theorem call_tupleP : CallR X (.type "tuple") (fun xs H Q => ∃ p ys, xs = [.ref p] ∧ SqL X.K H p ys ∧ ∀ l (o : Obj), H l = none → o.dict = none → Q (.ref l) (upd H l (.frz o (.tup ys)))) := by
  intro pins s σ H xs us Q I r h
  obtain ⟨p, ys, rfl, hq, q⟩ := h
  obtain ⟨u, rfl, rx⟩ := vals1 r
  cases rx
  obtain ⟨its, r', pl, hz⟩ := I.list hq
  have hlen := r'.length
  refine call_tuple_list pl.isList (fun h' kp => ?_) (by simp only [List.size_toArray] <;> omega)
  have I1 : Inv X pins σ H { s with heap := h' } := I.kept (t' := s.toks) kp
  have e1 : (h'.push { cls := .type "tuple", data := .seq its.toArray }).get? h'.objs.size = some ({ cls := .type "tuple", data := .seq its.toArray } : Obj) := Heap.get?_push_size _ rfl
  have I2 : Inv X pins σ (upd H h'.objs.size (.frz { cls := .type "tuple", data := .seq its.toArray } (.tup ys))) { s with heap := h'.push { cls := .type "tuple", data := .seq its.toArray } } :=
    I1.laid (t' := s.toks) (fun b o e => Heap.get?_push_of_some _ e) (Nat.le_refl _) ⟨e1, hz, its, r', IsTup.new _ _⟩
  exact ⟨.ref h'.objs.size, _, I2, rfl, q _ _ (I1.hok.fresh (Nat.le_refl _)) rfl⟩
theorem pairs_two {pins : List (Addr × Obj)} {σ : L2.St} {H : Hp} {s : Shared} (I : Inv X pins σ H s) : ∀ {ps : List Addr} {kvs : List (Key × V)}, Paired (fun p kv => SqT X.K H p [kV kv.1, kv.2]) ps kvs →
    ∃ (prs : List (Key × Value)) (qs : List (Value × Value)), KV kvs prs ∧ prs.length = ps.length ∧ qs.length = ps.length ∧ ∀ (j : Nat) (k v : Value), qs[j]? = some (k, v) → (∃ b, ps[j]? = some b ∧ IsTup s.heap b #[k, v]) ∧ ∃ key, prs[j]? = some (key, v) ∧ (mixKind X.prog X.w).is key k = true
  | _, _, .nil => ⟨[], [], .nil, rfl, rfl, fun j k v e => by simp at e⟩
  | _, _, .cons (a := p) (b := kv) h t => by
    obtain ⟨prs, qs, r, hl, hl2, hp⟩ := pairs_two I t
    obtain ⟨its, rv, ht, _⟩ := I.tuple h
    obtain ⟨u, y, ei, ru, ry⟩ := vals2 rv
    subst ei
    refine ⟨(kv.1, y) :: prs, (u, y) :: qs, .cons ⟨rfl, ry⟩ r, by rw [List.length_cons, List.length_cons, hl], by rw [List.length_cons, List.length_cons, hl2], fun j k v e => ?_⟩
    cases j with
    | zero =>
      have e' : (u, y) = (k, v) := Option.some.inj e
      injection e' with e1 e2
      subst e1 e2
      exact ⟨⟨p, rfl, ht⟩, kv.1, rfl, kV_is ru⟩
    | succ j => exact hp j k v (by simpa using e)
theorem call_dictT (hcalm : X.calm = true) : CallR X (.type "dict") (fun xs H Q => ∃ (a : Addr) (o : Obj) (ps : List Addr) (kvs : List (Key × V)), xs = [.ref a] ∧ H a = some (.frz o (.tup (ps.map V.ref))) ∧ o.dict = none ∧ Paired (fun p kv => SqT X.K H p [kV kv.1, kv.2]) ps kvs ∧ ps.length ≤ 1000 ∧
    ∀ p, H p = none → Q (.ref p) (upd H p (.dK (mergeK [] kvs)))) := by
  intro pins s σ H xs us Q I r q
  obtain ⟨a, o, ps, kvs, rfl, ha, hd, hp, hl1000, q⟩ := q
  obtain ⟨u, rfl, rx⟩ := vals1 r
  cases rx
  obtain ⟨ho, hz, its, rv, ht⟩ : s.heap.get? a = some o ∧ ObjOk X.prog X.w H s.heap a (.tup (ps.map V.ref)) := I.hok a _ ha
  obtain ⟨o', e', hc, n, hdat⟩ := ht
  rw [ho] at e'
  cases e'
  have ei := L2.refs_at rv
  obtain ⟨prs, qs, rel, hl, hl2, hpr⟩ := pairs_two I hp
  have hit : its.toArray.size = qs.length := by rw [ei, List.size_toArray, List.length_map, hl2]
  have hpi : PairItems s.heap its.toArray (fun j => ps.getD j 0) qs := ⟨hit, fun j k v e => by
    obtain ⟨⟨b, hb, o2, g1, g2, g3⟩, _⟩ := hpr j k v e
    have hg : ps.getD j 0 = b := by rw [List.getD_eq_getElem?_getD, hb]; rfl
    refine ⟨?_, .inl ?_⟩
    · show its.toArray[j]? = some (Value.ref (ps.getD j 0))
      rw [hg, ei]
      simp [hb]
    · show s.heap.IsTuple (ps.getD j 0) #[k, v]
      rw [hg]
      exact ⟨o2, g1, g2, g3⟩⟩
  refine PySem.call_dict_pairs (knd := mixKind X.prog X.w) (kvs := prs) (PairArg.tuple a its.toArray (fun j => ps.getD j 0) qs) (I.ok.hd hcalm) ⟨⟨o, n, ho, hc, hd, hdat⟩, hpi⟩ ⟨by rw [hl, hl2], fun i key v e => (hpr i key v e).2⟩ (Nat.le_of_lt (lt_size (by omega))) fun h' tk hd' k => ?_
  have hm : (s.heap.objs.size == sysModules) = false := beq_eq_false_iff_ne.mpr (Nat.ne_of_gt I.big)
  have hlen : (mergeK [] kvs).length ≤ sizeLine := by
    refine Nat.le_trans (length_mergeK kvs []) ?_
    rw [List.length_nil, Nat.zero_add, rel.length, hl]
    exact Nat.le_of_lt (lt_size (by omega))
  exact ⟨.ref s.heap.objs.size, upd H s.heap.objs.size (.dK (mergeK [] kvs)), I.laid (t' := tk) (fun b o e => k b o (by simp) e) (Nat.le_refl _) (show ObjOk X.prog X.w _ _ _ (.dK (mergeK [] kvs)) from ⟨hlen, hm, merged [] prs, KV.merge rel .nil, hd'⟩), rfl, q _ (I.hok.fresh (Nat.le_refl _))⟩
end
theorem valV_notin {kvs : List (Key × V)} {k : Key} (h : k ∉ kvs.map (·.1)) : valV kvs k = none := by
  induction kvs with
  | nil => rfl
  | cons p r ih =>
    rw [valV_neg (fun e => h (by rw [List.map_cons, e]; exact List.mem_cons_self))]
    exact ih fun z => h (by rw [List.map_cons]; exact List.mem_cons_of_mem _ z)
theorem mergeK_nd : ∀ (kvs acc : List (Key × V)), ((acc ++ kvs).map (·.1)).Nodup → mergeK acc kvs = acc ++ kvs
  | [], acc, _ => (List.append_nil acc).symm
  | p :: r, acc, h => by
    have hp : p.1 ∉ acc.map (·.1) := fun z => by
      rw [List.map_append, List.map_cons] at h
      exact (List.nodup_append.mp h).2.2 p.1 z p.1 List.mem_cons_self rfl
    show mergeK (putK acc p.1 p.2) r = _
    rw [putK_new p.2 (valV_notin hp), mergeK_nd r (acc ++ [(p.1, p.2)]) (by rw [List.append_assoc]; exact h), List.append_assoc]
    rfl
theorem valV_mem : ∀ {kvs : List (Key × V)} {p : Key × V}, (kvs.map (·.1)).Nodup → p ∈ kvs → valV kvs p.1 = some p.2
  | [], _, _, h => by cases h
  | q :: r, p, nd, h => by
    have nd' := List.nodup_cons.mp nd
    rcases List.mem_cons.mp h with e | m
    · rw [e, valV_pos rfl]
    · rw [valV_neg (fun e => nd'.1 (List.mem_map.mpr ⟨p, m, e.symm⟩))]
      exact valV_mem nd'.2 m
end NL
set_option maxHeartbeats 2000000
/-! sorted of mail: pairs of a number and a tuple of ints. -/
namespace NL
open PySem PySem.Spec PyProof.Rows L2 StX
open PySem.W (alike alikeAll dataLt dataLe EachIs dataLt_pair dataLt_int sorted_data sortLe_total keyToks)
def rSortM (K : PySem.W.Frag) : List V → Hp → VK → Prop := fun vs H Q => ∃ (a : Addr) (xs : List V) (mail : NLM.Mail), vs = [V.ref a] ∧ SqL K H a xs ∧ DpAll K H xs (mail.map encM) ∧ (mail.map (·.1)).Nodup ∧ mail.length ≤ 1000 ∧
  ∀ (bs : List (V × (Int × List Int))) (p : Addr), bs.Perm (xs.zip mail) → (bs.map (·.2)).Pairwise (fun a b => a.1 < b.1) → H p = none → Q (.ref p) (upd H p (.lst (bs.map (·.1))))
theorem alikeAll_ints : ∀ a b : List Int, alikeAll (a.map PyData.int) (b.map PyData.int) = true
  | [], _ => by simp [alikeAll]
  | _ :: _, [] => by simp [alikeAll]
  | x :: r, y :: t => by
    rw [List.map_cons, List.map_cons]
    simp only [alikeAll, alike, alikeAll_ints r t, Bool.and_self]
theorem alike_encM (m n : Int × List Int) : alike (encM m) (encM n) = true := by
  unfold encM dI
  simp only [alike, alikeAll, alikeAll_ints, Bool.and_self]
theorem depth_encM (m : Int × List Int) : (encM m).depth ≤ 6 := by
  have h2 : PyData.depthAll (m.2.map PyData.int) ≤ 1 := depAll fun d hd => by
    obtain ⟨i, _, rfl⟩ := List.mem_map.mp hd
    simp only [PyData.depth]; omega
  unfold encM dI
  simp only [PyData.depth, PyData.depthAll]
  omega
theorem le_encM {m n : Int × List Int} (h : dataLe false encM m n = true) : m.1 ≤ n.1 := by
  have h' : (!dataLt (encM n) (encM m)) = true := h
  by_cases hlt : n.1 < m.1
  · have e : dataLt (encM n) (encM m) = decide (n.1 < m.1) := by
      unfold encM
      rw [dataLt_pair (by simp only [alike]) (by unfold dI; simp only [alike, alikeAll_ints]), dataLt_int]
      rw [if_neg]
      simp only [PyData.eqv, beq_iff_eq]
      omega
    rw [e, decide_eq_true hlt] at h'
    cases h'
  · omega
theorem each_in {K : PySem.W.Frag} {H : Hp} : ∀ {vs : List V} {us : List Value} {mail : NLM.Mail}, Vals vs us → DpAll K H vs (mail.map encM) → EachIs (fun (u : Value) (b : V × (Int × List Int)) => RelV b.1 u ∧ Dp K H b.1 (encM b.2)) us (vs.zip mail)
  | _, _, [], .nil, .nil => .nil
  | _, _, m :: r, .cons h1 t1, .cons h2 t2 => .cons ⟨h1, h2⟩ (each_in t1 t2)
theorem each_out {K : PySem.W.Frag} {H : Hp} : ∀ {us : List Value} {l : List (V × (Int × List Int))}, EachIs (fun (u : Value) (b : V × (Int × List Int)) => RelV b.1 u ∧ Dp K H b.1 (encM b.2)) us l → Vals (l.map (·.1)) us
  | _, _, .nil => .nil
  | _, _, .cons h t => .cons h.1 (each_out t)
theorem zip_snd {α β : Type} : ∀ {xs : List α} {ys : List β}, xs.length = ys.length → (xs.zip ys).map (·.2) = ys
  | [], [], _ => rfl
  | [], _ :: _, h => by cases h
  | _ :: _, [], h => by cases h
  | x :: xs, y :: ys, h => by
    rw [List.zip_cons_cons, List.map_cons, zip_snd (by simpa using h)]
section
variable {X : Cx}
theorem call_sortM {n : Nat} (hr : Room n X.A) : CallR X (.builtin "sorted") (rSortM X.K) := by
  intro pins s σ H vs us Q I r h
  obtain ⟨a, xs, mail, rfl, hs, hd, hnd, hlen, q⟩ := h
  obtain ⟨its, rv, hl, hz⟩ := I.list hs
  rw [Vals.ref1 r]
  have hxl : xs.length = mail.length := by rw [dps_len hd, List.length_map]
  have hzl : (xs.zip mail).length = mail.length := by rw [List.length_zip]; omega
  have hun := hr.un
  refine sorted_data (bs := xs.zip mail) (enc := fun b => encM b.2) (R := fun u b => RelV b.1 u ∧ Dp X.K H b.1 (encM b.2)) hl.isList (each_in rv hd) ((each_in rv hd).mono fun u b ⟨h1, h2⟩ => Dp.reads I _ _ _ h2 h1) (fun d hd1 d' hd2 => ?_) (.inl fun d hd1 => ?_) (Nat.le_of_lt (lt_size (by omega))) (fun b _ => by have := depth_encM b.2; omega) fun out ho he => ?_
  · obtain ⟨b, _, rfl⟩ := List.mem_map.mp hd1
    obtain ⟨b', _, rfl⟩ := List.mem_map.mp hd2
    exact alike_encM _ _
  · obtain ⟨b, _, rfl⟩ := List.mem_map.mp hd1
    exact ⟨_, _, rfl⟩
  · obtain ⟨ep, he'⟩ := PyProof.Rows.sortedAll_at s.heap its (List.toArray out)
    have T := sortLe_total (listOrd itemOrd) false (fun b : V × (Int × List Int) => keyToks (encM b.2))
    have hperm := List.mergeSort_perm (xs.zip mail) (dataLe false fun b => encM b.2)
    have hpw : ((xs.zip mail).mergeSort (dataLe false fun b => encM b.2)).Pairwise (fun a b => dataLe false (fun b : V × (Int × List Int) => encM b.2) a b = true) := List.pairwise_mergeSort (fun a b c h1 h2 => T.trans a b c h1 h2) (fun a b => Bool.or_eq_true_iff.mpr (T.total a b)) _
    have hnd2 : (((xs.zip mail).mergeSort (dataLe false fun b => encM b.2)).map fun b => b.2.1).Nodup := by
      refine (hperm.map fun b => b.2.1).nodup_iff.mpr ?_
      have e : (xs.zip mail).map (fun b => b.2.1) = mail.map (·.1) := by
        conv => rhs; rw [← zip_snd hxl]
        rw [List.map_map]
        rfl
      rw [e]
      exact hnd
    have hv := each_out he
    have hl2 : (((xs.zip mail).mergeSort (dataLe false fun b => encM b.2)).map (·.1)).length ≤ sizeLine := by
      rw [List.length_map, hperm.length_eq, hzl]
      exact Nat.le_of_lt (lt_size (by omega))
    refine ⟨.ref _, upd H (s.heap.objs.size + 1) (.lst (((xs.zip mail).mergeSort (dataLe false fun b => encM b.2)).map (·.1))), I.laid (t' := s.toks) (fun _ _ => PyProof.Rows.sortedAll_old) (Nat.le_succ _) ⟨hl2, out, ep, hv, he'⟩, rfl, q _ _ hperm ?_ (I.hok.fresh (Nat.le_succ _))⟩
    rw [List.pairwise_map]
    have hnd3 := List.pairwise_map.mp hnd2
    refine (hpw.and hnd3).imp fun {a b} ⟨h1, h2⟩ => ?_
    have := le_encM (m := a.2) (n := b.2) h1
    omega
variable {C : Addr} {G : List SK} {e : Expr} {pos q : Pos}
theorem dps_zip {K : PySem.W.Frag} {Hi : Hp} : ∀ {vs : List V} {mail : NLM.Mail}, DpAll K Hi vs (mail.map encM) → ∀ b ∈ vs.zip mail, Dp K Hi b.1 (encM b.2)
  | _, [], h, b, hb => by
    rw [List.zip_nil_right] at hb
    cases hb
  | _, m :: r, .cons h1 t, b, hb => by
    rw [List.zip_cons_cons] at hb
    rcases List.mem_cons.mp hb with rfl | hb
    · exact h1
    · exact dps_zip t b hb
theorem dps_of {K : PySem.W.Frag} {Hi : Hp} : ∀ {bs : List (V × (Int × List Int))}, (∀ b ∈ bs, Dp K Hi b.1 (encM b.2)) → DpAll K Hi (bs.map (·.1)) ((bs.map (·.2)).map encM)
  | [], _ => .nil
  | b :: r, h => .cons (h b List.mem_cons_self) (dps_of fun x hx => h x (List.mem_cons_of_mem _ hx))
/-- sorted(x) of mail with unlike numbers -/
theorem pd_sortM {n : Nat} {mail mail' : NLM.Mail} (hr : Room n X.A) (hm : X.mg "sorted" = none) (ha : PE X e (tD X.K C G (.list (mail.map encM)))) (hp : mail'.Perm mail) (hasc : mail'.Pairwise fun a b => a.1 < b.1) (hl : mail.length ≤ 1000) (hg : Gl X "sorted" := by rfl) (he : starEach [e] X.env = (false, eval e X.env) :: starEach [] X.env := by rfl) :
    PE X (.Call (.Name "sorted" q) [e] [] pos) (tD X.K C G (.list (mail'.map encM))) :=
  pd_callB (call_sortM hr) hm (by decide +kernel) (ds_cons ha ds_nil he) (fun Hi H vs Q s h qq => by
    cases h with
    | cons h1 h2 =>
      cases h2
      obtain ⟨p, ws, rfl, hs, ha⟩ := dp_lst h1
      have hnd : (mail.map (·.1)).Nodup := by
        refine (hp.map (·.1)).nodup_iff.mp ?_
        unfold List.Nodup
        rw [List.pairwise_map]
        exact hasc.imp fun {a b} z => by omega
      have hwl : ws.length = mail.length := by rw [dps_len ha, List.length_map]
      refine ⟨p, ws, mail, rfl, s.seq hs, dps_mono s _ _ ha, hnd, hl, fun bs p' hbs hpw hn => ?_⟩
      have hbm : bs.map (·.2) = mail' := by
        have h1 : (bs.map (·.2)).Perm mail := by
          have := hbs.map (·.2)
          rw [zip_snd hwl] at this
          exact this
        refine (h1.trans hp.symm).eq_of_pairwise (fun a b _ _ h1 h2 => ?_) hpw hasc
        omega
      rw [← hbm] at qq
      exact qq _ _ _ (Ext.one s hn) (new_lst s (dps_of fun b hb => dps_zip ha b (hbs.mem_iff.mp hb)) hn)) hg (by decide) (by decide) he (by rfl)
end
end NL
set_option maxHeartbeats 2000000
/-! The plain law: a letter put among the mail. -/
namespace NLM
def insM : Mail → (Int × List Int) → Mail
  | [], x => [x]
  | y :: r, x => if x.1 < y.1 then x :: y :: r else y :: insM r x
theorem insM_perm : ∀ (mail : Mail) (x : Int × List Int), (insM mail x).Perm (mail ++ [x])
  | [], x => List.Perm.refl _
  | y :: r, x => by
    unfold insM
    split
    · exact (List.perm_append_comm (l₁ := [x]) (l₂ := y :: r))
    · exact (insM_perm r x).cons y
theorem insM_sub : ∀ (mail : Mail) (x : Int × List Int), mail.Sublist (insM mail x)
  | [], x => List.nil_sublist _
  | y :: r, x => by
    unfold insM
    split
    · exact List.sublist_cons_self _ _
    · exact (insM_sub r x).cons₂ y
theorem insM_asc : ∀ {mail : Mail} {x : Int × List Int}, mail.Pairwise (fun a b => a.1 < b.1) → (∀ m ∈ mail, m.1 ≠ x.1) → (insM mail x).Pairwise (fun a b => a.1 < b.1)
  | [], x, _, _ => List.pairwise_singleton _ _
  | y :: r, x, h, hn => by
    have h1 := List.pairwise_cons.mp h
    have hy := hn y List.mem_cons_self
    unfold insM
    split
    · rename_i hlt
      refine List.pairwise_cons.mpr ⟨fun m hm => ?_, h⟩
      rcases List.mem_cons.mp hm with e | m'
      · rw [e]; exact hlt
      · have := h1.1 m m'
        omega
    · rename_i hlt
      refine List.pairwise_cons.mpr ⟨fun m hm => ?_, insM_asc h1.2 fun m hm => hn m (List.mem_cons_of_mem _ hm)⟩
      rcases List.mem_append.mp ((insM_perm r x).mem_iff.mp hm) with m' | e
      · exact h1.1 m m'
      · rw [List.mem_singleton.mp e]
        omega
theorem insM_len (mail : Mail) (x : Int × List Int) : (insM mail x).length = mail.length + 1 := by
  rw [(insM_perm mail x).length_eq, List.length_append]
  rfl
theorem MailOk.ins {p : Int} {lay : List Int} {mail : Mail} {n : Int} {letter : List Int} (h : MailOk p lay mail) (h0 : 0 ≤ n) (h1 : n < lay.length) (hn : ∀ m ∈ mail, m.1 ≠ n) (hl : letter.length = (needsIn lay).length) (hr : ∀ s ∈ letter, 0 ≤ s ∧ s < p) : MailOk p lay (insM mail (n, letter)) := by
  have key : ∀ m ∈ insM mail (n, letter), m ∈ mail ∨ m = (n, letter) := fun m hm => by
    rcases List.mem_append.mp ((insM_perm mail (n, letter)).mem_iff.mp hm) with m' | e
    · exact .inl m'
    · exact .inr (List.mem_singleton.mp e)
  refine ⟨h.pr, insM_asc h.asc hn, fun m hm => ?_, fun m hm => ?_, fun m hm => ?_⟩
  · rcases key m hm with z | z
    · exact h.lo m z
    · rw [z]
      exact ⟨h0, h1⟩
  · rcases key m hm with z | z
    · exact h.len m z
    · rw [z]
      exact hl
  · rcases key m hm with z | z
    · exact h.rg m z
    · rw [z]
      exact hr
end NLM
set_option maxHeartbeats 2000000
/-! Receivers: the methods that change. -/
namespace NL
open PySem PySem.Spec PyProof.Rows L2 StX
section
variable {X : Cx} {C : Addr} {G : List SK} {a b e : Expr} {es : List Expr} {pos q q1 q2 q3 q4 q5 q6 : Pos} {d d1 d2 lay : PyData} {ds : List PyData} {p : Int} {N : List SK → Prop} {R : PyData → Prop}
/-- x = tuple(e): a plain tuple -/
theorem sd_setP (i : Nat) {x : Str} (hN : X.N.Nodup) (hm : X.mg "tuple" = none) (ha : PE X a (tD X.K C G (.list ds))) (hi : X.N[i]? = some x := by rfl) (hx : Loc X.env.scope x := by first | exact Or.inl rfl | exact Or.inr rfl) (hs : swapsWith (.Call (.Name "tuple" q1) [a] [] q2) (some (.Name x q)) pos.line X.env = pure false := by rfl)
    (hf : X.fn x = true ∨ X.env.scope.names.lookup x = some .local := by first | exact .inl rfl | exact .inr rfl) (hg : Gl X "tuple" := by rfl) (he : starEach [a] X.env = (false, eval a X.env) :: starEach [] X.env := by rfl) :
    PS X (.Assign [.Name x q] (.Call (.Name "tuple" q1) [a] [] q2) pos) (tS X.K C G (fun g => g = G.set i (.pdt (.tuple ds))) R) :=
  ps_to (ps_set hN hi hx (pe_callTy call_tupleP hg hm (by decide +kernel) (pa_cons ha pa_nil he) (by decide) (by decide) he (by rfl)) hs hf) fun D σ H ⟨Z, Hi0, Hi, f, S, k1, k2⟩ => ⟨Z, Hi, S, fun v Hi1 H1 e1 hv => by
    obtain ⟨p, vs, rfl, hs, hd⟩ := dp_lst hv
    refine ⟨p, vs, rfl, e1.sub.seq hs, fun l o hl ho => ?_⟩
    have E := Ext.one (o := .frz o (.tup vs)) e1.sub hl
    have S2 := (S.ext e1).ext E
    refine k1 _ _ _ _ rfl (e1.trans E).up (f.ext (e1.trans E)) (S2.set rfl ⟨l, rfl, .tup (.inl (.inr ⟨o, upd_same⟩)) (dps_mono (same_new (e1.sub.free hl)) _ _ hd), o, vs, ds, upd_same, ho, dps_mono (same_new (e1.sub.free hl)) _ _ hd, rfl⟩)⟩
/-- (*o.own_past, (step, x)) -/
theorem pv_past (n i : Nat) {x y : Str} {k1 k2 : Nat} (T : Rcls X.K C) (hk : IsR (G[n]?) p lay (.tuple ds)) (hs : PE X a (tD X.K C G d1)) (hi : G[i]? = some (.pdt d2)) (hl : ds.length ≤ 900) (hN : X.N[n]? = some x := by rfl) (hv : Vis X.env.scope x := by first | exact Or.inl rfl | exact Or.inr (Or.inl rfl) | exact Or.inr (Or.inr rfl)) (hd : (x == ("__debug__" : Str)) = false := by decide) (hcd : (x == ("__classdict__" : Str)) = false := by decide)
    (hN2 : X.N[i]? = some y := by rfl) (hv2 : Vis X.env.scope y := by first | exact Or.inl rfl | exact Or.inr (Or.inl rfl) | exact Or.inr (Or.inr rfl)) (hd2 : (y == ("__debug__" : Str)) = false := by decide) (hcd2 : (y == ("__classdict__" : Str)) = false := by decide)
    (hb : attributeBase (.Name x q1) "own_past" X.env (eval (.Name x q1) X.env) = eval (.Name x q1) X.env := by rfl)
    (hst : starEach [.Starred (.Attribute (.Name x q1) "own_past" q2) q3, .Tuple [a, .Name y q4] k1 q5] X.env = (true, eval (.Attribute (.Name x q1) "own_past" q2) X.env) :: starEach [.Tuple [a, .Name y q4] k1 q5] X.env := by rfl)
    (hst2 : starEach [.Tuple [a, .Name y q4] k1 q5] X.env = (false, eval (.Tuple [a, .Name y q4] k1 q5) X.env) :: starEach [] X.env := by rfl)
    (hst3 : starEach [a, .Name y q4] X.env = (false, eval a X.env) :: starEach [.Name y q4] X.env := by rfl) (hst4 : starEach [.Name y q4] X.env = (false, eval (.Name y q4) X.env) :: starEach [] X.env := by rfl) :
    PE X (.Tuple [.Starred (.Attribute (.Name x q1) "own_past" q2) q3, .Tuple [a, .Name y q4] k1 q5] k2 pos) (tPast X.K C G (.tuple (ds ++ [.tuple [d1, d2]]))) :=
  pe_to (pe_tup (pa_star (pe_fld (pe_var hN hv hd hcd) hb) (pa_cons (pe_tup (pa_cons hs (pa_cons (pe_var hN2 hv2 hd2 hcd2) pa_nil hst4) hst3)) pa_nil hst2) hst)) fun σ H Q ⟨Z, Hi, S, k⟩ => by
    obtain ⟨z, g1, g2⟩ := rcv_slot S hk
    obtain ⟨dx, fs, vl, vp, h1, h2, h3, h4, h5, h6, h7⟩ := g2.ex
    obtain ⟨pa, es, ds', rfl, y2, y3, y4⟩ := h7
    injection y4 with y4
    subst y4
    refine ⟨.ref z, g1, z, C, dx, fs, .ref pa, rfl, h1, T.cls, T.nh, h4, pa, es, rfl, .inl (same_t S.sub y2), Z, Hi, S, fun v Hi1 H1 e1 hv1 => ?_⟩
    obtain ⟨c, m1, m2, m3⟩ := (S.ext e1).ok i _ hi
    refine ⟨.ref c, m1, by show 2 ≤ sizeLine; decide, fun b hb => ⟨?_, fun t ht => ?_⟩⟩
    · rw [List.length_append, y3.len]
      exact Nat.le_of_lt (lt_size (by show ds.length + 1 ≤ 1000; omega))
    · have E1 := Ext.one (o := .tup [v, .ref c]) e1.sub hb
      have E2 := Ext.one (o := .tup (es ++ [.ref b])) E1.sub ht
      have u1 : Same Hi1 (upd (upd Hi1 b (.tup [v, .ref c])) t (.tup (es ++ [.ref b]))) := E1.up.trans E2.up
      refine k _ _ _ ((e1.trans E1).trans E2) ⟨t, _, _, rfl, SqT.of upd_same, (y3.mono (e1.up.trans u1)).app (.cons (.mk ?_ (dp_mono u1 _ _ hv1) (dp_mono u1 _ _ m2) (.inl (m3.mono u1))) .nil), rfl⟩
      exact same_t E2.up (SqT.of upd_same)
/-- o.own_past[:e] -/
theorem pv_cut (n : Nat) {x : Str} {m : Nat} (T : Rcls X.K C) (hk : IsR (G[n]?) p lay (.tuple ds)) (he : PE X e (tD X.K C G (.int (m : Int)))) (hN : X.N[n]? = some x := by rfl) (hv : Vis X.env.scope x := by first | exact Or.inl rfl | exact Or.inr (Or.inl rfl) | exact Or.inr (Or.inr rfl)) (hd : (x == ("__debug__" : Str)) = false := by decide) (hcd : (x == ("__classdict__" : Str)) = false := by decide)
    (hb : attributeBase (.Name x q1) "own_past" X.env (eval (.Name x q1) X.env) = eval (.Name x q1) X.env := by rfl) : PE X (.Subscript (.Attribute (.Name x q1) "own_past" q2) (.Slice none (some e) none q3) pos) (tPast X.K C G (.tuple (ds.take m))) :=
  pe_to (pe_slice sl_tupA (pe_fld (pe_var hN hv hd hcd) hb) (do_none (G := G) (C := C)) (do_some he)) fun σ H Q ⟨Z, Hi, S, k⟩ => by
    obtain ⟨z, g1, g2⟩ := rcv_slot S hk
    obtain ⟨dx, fs, vl, vp, h1, h2, h3, h4, h5, h6, h7⟩ := g2.ex
    refine ⟨.ref z, g1, z, C, dx, fs, vp, rfl, h1, T.cls, T.nh, h4, Z, Hi, S, fun Hi1 H1 e1 => ⟨Z, Hi1, S.ext e1, fun Hi2 H2 e2 => ?_⟩⟩
    have h8 := h7.mono (e1.trans e2).up
    obtain ⟨pa, es, ds', rfl, y2, y3, y4⟩ := h8
    injection y4 with y4
    subst y4
    have hl := y3.len
    have ecut : cutV es none (some (m : Int)) = es.take m := by
      unfold cutV
      rw [HT.sIx_none, HT.sIx_nat, List.drop_zero, Nat.sub_zero]
      by_cases h : m ≤ es.length
      · rw [Nat.min_eq_left h]
      · rw [Nat.min_eq_right (by omega), List.take_length, List.take_of_length_le (by omega)]
    refine ⟨pa, es, rfl, same_t e2.sub y2, fun hw => k _ Hi2 H2 (e1.trans e2) ⟨pa, es, ds, rfl, y2, y3, ?_⟩, fun _ p' hp => ?_⟩
    · have hw2 := hw.2
      rw [HT.sIx_nat] at hw2
      rw [List.take_of_length_le (by omega)]
    · have E := Ext.one (o := .tup (cutV es none (some (m : Int)))) e2.sub hp
      refine k _ _ _ ((e1.trans e2).trans E) ⟨p', _, _, rfl, SqT.of upd_same, ?_, rfl⟩
      have zz := (y3.mono E.up).take m
      rw [ecut] at zz ⊢
      exact zz
end
section
variable {P : Program} {w : World} {K : PySem.W.Frag} {mg : Str → Option Value} {base : Heap} {C f : Addr} {fd : FuncData}
theorem encM_inj {a b : Int × List Int} (h : encM a = encM b) : a = b := by
  unfold encM at h
  injection h with h
  injection h with h1 h2
  injection h1 with h1
  injection h2 with h2 h3
  exact Prod.ext h1 (by
    unfold dI at h2
    injection h2 with h2
    exact (List.map_inj_right fun x y e => by injection e).mp h2)
theorem dM_inj {a b : NLM.Mail} (h : dM a = dM b) : a = b := by
  unfold dM at h
  injection h with h
  exact (List.map_inj_right fun x y e => encM_inj e).mp h
theorem encR_inj {a b : PyData × NLM.Mail} (h : encR a = encR b) : a = b := by
  unfold encR at h
  injection h with h
  injection h with h1 h2
  injection h2 with h2 h3
  exact Prod.ext h1 (dM_inj h2)
theorem dPast_inj {a b : Past} (h : dPast a = dPast b) : a = b := by
  unfold dPast at h
  injection h with h
  exact (List.map_inj_right fun x y e => encR_inj e).mp h
theorem dI_inj' {a b : List Int} (h : dI a = dI b) : a = b := by
  unfold dI at h
  injection h with h
  exact (List.map_inj_right fun x y e => by injection e).mp h
/-- a receiver of one's own: its states, the last one with the mail -/
def Own1 (a : Addr) (p : Int) (lay : List Int) (ps : Past) (mail : NLM.Mail) (k : SK) : Prop := NLM.LayOk lay ∧ NLM.MailOk p lay mail ∧ (∃ init s, ps = init ++ [(s, mail)]) ∧ ps.length ≤ 900 ∧ k = .rcm a p (dI lay) (dPast ps)
theorem Own1.live {a : Addr} {p : Int} {lay : List Int} {ps : Past} {mail : NLM.Mail} {k : SK} (h : Own1 a p lay ps mail k) : Live (.rcv p (dI lay) (dPast ps)) p lay mail := by
  obtain ⟨h1, h2, ⟨init, s, e⟩, _, _⟩ := h
  exact ⟨h1, h2, init, s, by rw [e]⟩
theorem past_snoc (ps : Past) (r : PyData × NLM.Mail) : dPast (ps ++ [r]) = .tuple (ps.map encR ++ [.tuple [r.1, dM r.2]]) := by
  unfold dPast
  rw [List.map_append]
  rfl
theorem not_here {mail : NLM.Mail} {n : Int} (hn : ∀ m ∈ mail, m.1 ≠ n) : ((mail.map (·.1)).any fun y => decide (y = n)) = false := by
  rw [List.any_eq_false]
  intro y hy
  obtain ⟨m, hm, rfl⟩ := List.mem_map.mp hy
  rw [decide_eq_false (hn m hm)]
  exact Bool.false_ne_true
theorem is_here {mail : NLM.Mail} {n : Int} {letter : List Int} (hn : (n, letter) ∈ mail) : ((mail.map (·.1)).any fun y => decide (y = n)) = true := by
  rw [List.any_eq_true]
  exact ⟨n, List.mem_map.mpr ⟨_, hn, rfl⟩, decide_eq_true rfl⟩
def PreCome (ms : List SK) (ds : List PyData) : Prop := ∃ a p lay ps mail k n letter, Own1 a p lay ps mail k ∧ ps.length ≤ 800 ∧ 0 ≤ n ∧ n < (lay.length : Int) ∧ (∀ m ∈ mail, m.1 ≠ n) ∧ letter.length = (NLM.needsIn lay).length ∧ (∀ s ∈ letter, 0 ≤ s ∧ s < p) ∧ ms = [k] ∧ ds = [.int n, dI letter]
def PostCome (ms : List SK) (ds : List PyData) (d : PyData) (ms' : List SK) : Prop := ∃ a p lay ps mail k n letter, Own1 a p lay ps mail k ∧ ms = [k] ∧ ds = [.int n, dI letter] ∧ ∃ k' st, Own1 a p lay (ps ++ [(st, NLM.insM mail (n, letter))]) (NLM.insM mail (n, letter)) k' ∧ d = .int (Rk lay (mail.length + 1)) ∧ ms' = [k']
theorem sc_come : FnScope ["self", "number", "letter", "came"] ["self", "number", "letter"] (defScope (inC 5)) := ⟨rfl, rfl, rfl, by decide +kernel, rfl, by decide +kernel, by decide +kernel⟩
theorem ok_come (T0 : Free mg) (T : Rcls K C) (hC : ∃ t, mg "COME" = some (.str "come" t)) (cb : CalD P w K mg base C 2 "is_between" R_is_between) (ca : CalD P w K mg base C 4 "are_signs" R_are_signs) (cm : MetD P w K mg base C 1 "mail" R_mail) (ch : MetD P w K mg base C 2 "here" R_here) (ck : MetD P w K mg base C 3 "known" R_known)
    (F : FnP K "come" "Receiver.come" (inC 5) [] f fd) (hm : Meth K C "come" f) : MetM P w K mg base C 5 "come" [] PreCome PostCome := by
  refine met_sm F hm sc_come (F.bindsN fun _ _ _ _ _ _ us hl => match us, hl with | [_, _, _], _ => rfl) .nil (fun _ => .nil) (fun ms ds ⟨_, _, _, _, _, _, _, _, _, _, _, _, _, _, _, h1, h2⟩ => by rw [h1, h2] <;> rfl) fun cdv A outer s H E ms ds hr ⟨a, p, lay, ps, mail, k, n, letter, O, hps, n0, n1, hn, hll, hlr, h1, h2⟩ => ?_
  obtain ⟨hl, hM, ⟨init, st0, eps⟩, _, ek⟩ := id O
  subst h1 h2 ek
  have L := O.live
  have h8 := hl.l8
  have hsh := hM.short
  have h12 := NLM.needs_len12 hl
  have hsum := NLM.needsIn_len fun s hs => (hl.sh s hs).1
  refine sm_pure (sd_no (pd_isT (pt_or (pt_notD (pt_valD (pd_call cb hr (da_cons (pd_var 1 rfl) (da_cons pd_int (da_cons (pd_sub (pd_lenT T0.len (pd_fl 0 T .m)) pd_int) da_nil))) ⟨n, 0, _, rfl, rfl⟩))) fun _ => pw_or1 (pt_cmpD op_in_seq (pd_var 1 rfl) (pd_meth0 0 T ch hr .m ⟨_, p, lay, mail, L, rfl, rfl⟩) (opd_inL (neg := false)))).pt ?_)) ?_
  · rw [map_len, decide_eq_true n0, decide_eq_true (show n ≤ (lay.length : Int) - 1 by omega), if_neg Bool.false_ne_true, not_here hn]
    rfl
  refine sm_pure (sd_no (pd_isT (pt_or (pt_notD (pt_valD (pd_call ca hr (da_cons (pd_fp 0 T .m) (da_cons (pd_var 2 rfl) da_nil)) ⟨p, letter, by omega, rfl, rfl⟩))) fun _ => pw_or1 (pt_neI (pd_lenT T0.len (pd_var 2 rfl)) (pd_sumT rfl T0.sum (pd_fl 0 T .m)))).pt ?_)) ?_
  · have e1 : (letter.all fun i => decide (0 ≤ i) && decide (i ≤ p - 1)) = true := List.all_eq_true.mpr fun i hi => by
      have := hlr i hi
      rw [decide_eq_true this.1, decide_eq_true (show i ≤ p - 1 by omega)]
      rfl
    rw [e1, map_len, decide_eq_true (show (letter.length : Int) = lay.sum by rw [hll]; exact hsum)]
    rfl
  have hM' := hM.ins n0 n1 hn hll hlr
  refine sm_pure (sd_setP 3 sc_come.nd T0.tuple (pd_sortM (mail := mail ++ [(n, letter)]) (mail' := NLM.insM mail (n, letter)) hr T0.sorted (pd_is (pd_lst (ds_starT (pd_meth0 0 T cm hr .m ⟨_, p, lay, mail, L, rfl, rfl⟩) (ds_cons (pd_tup (ds_cons (pd_var 1 rfl) (ds_cons (pd_var 2 rfl) ds_nil)) (by show 2 ≤ sizeLine; decide)) ds_nil)) (Nat.le_of_lt (lt_size (by rw [List.length_append, map_len]; show _ + 1 ≤ 1000; omega)))) (by rw [List.map_append]; rfl)) (NLM.insM_perm _ _) hM'.asc (by rw [List.length_append]; show _ + 1 ≤ 1000; omega))) ?_
  have ep : dPast (ps ++ [(.tuple [.str "come", .int n, dI letter], NLM.insM mail (n, letter))]) = .tuple (ps.map encR ++ [.tuple [.tuple [.str "come", .int n, dI letter], dM (NLM.insM mail (n, letter))]]) := past_snoc _ _
  refine sm_seq (G1 := [.rcm a p (dI lay) (dPast (ps ++ [(.tuple [.str "come", .int n, dI letter], NLM.insM mail (n, letter))])), .dat (.int n), .dat (dI letter), .pdt (.tuple ((NLM.insM mail (n, letter)).map encM))]) (sm_fset 0 T rfl (pv_past 0 3 T .m (pd_tup (ds_cons (pd_gstr hC) (ds_cons (pd_var 1 rfl) (ds_cons (pd_var 2 rfl) ds_nil))) (by show 3 ≤ sizeLine; decide)) rfl (by rw [map_len]; omega)) (by rw [ep]; rfl)) ?_
  have O' : Own1 a p lay (ps ++ [(.tuple [.str "come", .int n, dI letter], NLM.insM mail (n, letter))]) (NLM.insM mail (n, letter)) (.rcm a p (dI lay) (dPast (ps ++ [(.tuple [.str "come", .int n, dI letter], NLM.insM mail (n, letter))]))) := ⟨hl, hM', ⟨ps, _, rfl⟩, by rw [List.length_append]; show _ + 1 ≤ 900; omega, rfl⟩
  refine sm_last (sm_ret (te_p (M := fun d G' => d = .int (Rk lay (mail.length + 1)) ∧ G'.take 1 = [.rcm a p (dI lay) (dPast (ps ++ [(.tuple [.str "come", .int n, dI letter], NLM.insM mail (n, letter))]))]) (pd_meth0 0 T ck hr .m ⟨_, p, lay, _, O'.live, rfl, rfl⟩) ⟨by rw [NLM.insM_len], rfl⟩) fun d G' ⟨e, hG⟩ => ⟨_, ⟨a, p, lay, ps, mail, _, n, letter, O, rfl, rfl, _, _, O', e, rfl⟩, rfl, hG⟩)
/-- what undo asks, does -/
def PreUndo (ms : List SK) (ds : List PyData) : Prop := ∃ a p lay ps, 2 ≤ ps.length ∧ ps.length ≤ 900 ∧ ms = [.rcm a p lay (dPast ps)] ∧ ds = [.int 1]
def PostUndo (ms : List SK) (_ : List PyData) (d : PyData) (ms' : List SK) : Prop := ∃ a p lay ps, ms = [.rcm a p lay (dPast ps)] ∧ d = .none ∧ ms' = [.rcm a p lay (dPast ps.dropLast)]
theorem sc_undo : FnScope ["self", "many"] ["self", "many"] (defScope (inC 12)) := ⟨rfl, rfl, rfl, by decide +kernel, rfl, by decide +kernel, by decide +kernel⟩
theorem ok_undo {t : Tok} (T0 : Free mg) (T : Rcls K C) (ci : CalD P w K mg base C 1 "is_integer" R_is_integer) (F : FnP K "undo" "Receiver.undo" (inC 12) [.int 1] f fd) (hm : Meth K C "undo" f) (hbd : Binds K fd ["self", "many"] [.int 1 t]) : MetM P w K mg base C 2 "undo" [.int 1] PreUndo PostUndo := by
  refine met_sm F hm sc_undo hbd (.cons ⟨t, rfl⟩ .nil) (fun _ => .cons (.int 1) .nil) (fun ms ds ⟨_, _, _, _, _, _, h1, h2⟩ => by rw [h1, h2] <;> rfl) fun cdv A outer s H E ms ds hr ⟨a, p, lay, ps, hp1, hp2, h1, h2⟩ => ?_
  subst h1 h2
  refine sm_pure (sd_no (pt_or (k1 := false) (k2 := false) (pt_notD (k1 := true) (pt_valD (pd_call ci hr (da_cons (pd_var 1 rfl) da_nil) ⟨1, rfl, rfl⟩))) fun _ => pw_or1 (pd_isT (pt_lt (pd_var 1 rfl) pd_int) rfl)).pt) ?_
  refine sm_pure (sd_no (pd_isT (pt_ge (pd_var 1 rfl) (pd_lenT T0.len (pd_fh 0 T .m))) (decide_eq_false (by rw [map_len]; omega)))) ?_
  have ed : dPast ps.dropLast = .tuple ((ps.map encR).take (ps.length - 1)) := by
    unfold dPast
    rw [List.dropLast_eq_take, List.map_take]
  refine sm_seq (G1 := [.rcm a p lay (dPast ps.dropLast), .dat (.int 1)]) (sm_fset 0 T rfl (pv_cut (m := ps.length - 1) 0 T .m (pd_is (pd_sub (pd_lenT T0.len (pd_fh 0 T .m)) (pd_var 1 rfl)) (by rw [map_len]; congr 1; omega))) (by rw [ed]; rfl)) (sm_end ⟨_, ⟨a, p, lay, ps, rfl, rfl, rfl⟩, rfl, rfl⟩ (Weak.refl _))
end
end NL
set_option maxHeartbeats 2000000
/-! Receivers: drop, __init__. -/
namespace NL
open PySem PySem.Spec PyProof.Rows L2 StX
section
variable {P : Program} {w : World} {K : PySem.W.Frag} {mg : Str → Option Value} {base : Heap} {C f : Addr} {fd : FuncData}
/-- mail(), by values -/
def spMailP (K : PySem.W.Frag) (C : Addr) : Sp := fun vs H Q _ => ∃ x dx fs a es b st c, vs = [V.ref x] ∧ H x = some (.ins C dx fs) ∧ fs.lookup ("own_past" : Str) = some (.ref a) ∧ SqT K H a es ∧ atI es (-1) = some (.ref b) ∧ SqT K H b [st, c] ∧ Q c H
theorem ok_mailP (T : Rcls K C) (F : FnP K "mail" "Receiver.mail" (inC 3) [] f fd) : FnOk P w K mg base CX0 1 f fd ["self"] (spMailP K C) := by
  refine F.ok sc_mail (fun vs H Q E ⟨_, _, _, _, _, _, _, _, h, _⟩ => by rw [h] <;> rfl) fun cdv A outer s H vs Q E hr h => ?_
  obtain ⟨x, dx, fs, a, es, b, st, c, rfl, h1, h2, h3, h4, h5, q⟩ := h
  refine ⟨_, pss_one (ps_ret (pe_ix ix_tup (pe_ix ix_tup (pe_fld (pe_var (i := 0) rfl (.inl rfl)) rfl) (pe_un un_neg pe_int) fun _ _ => rfl) pe_int fun _ _ => rfl)), ?_⟩
  exact ⟨.ref x, rfl, x, C, dx, fs, .ref a, rfl, h1, T.cls, T.nh, h2, 1, rfl, a, es, -1, .ref b, rfl, rfl, h3, h4, b, [st, c], 1, c, rfl, rfl, h5, rfl, q⟩
end
theorem ents_last {K : PySem.W.Frag} {Hi : Hp} : ∀ {vs : List V} {ds : List PyData} {d : PyData}, EntsOk K Hi vs (ds ++ [d]) → ∃ vs' v, vs = vs' ++ [v] ∧ EntryOk K Hi v d
  | _, [], d, h => by
    cases h with
    | cons a b =>
      cases b
      exact ⟨[], _, rfl, a⟩
  | _, x :: r, d, h => by
    cases h with
    | cons a b =>
      obtain ⟨vs', v, e, h⟩ := ents_last b
      exact ⟨_ :: vs', v, by rw [e]; rfl, h⟩
theorem mail_pairs {K : PySem.W.Frag} {Hi : Hp} : ∀ {xs : List V} {mail : NLM.Mail}, DpAll K Hi xs (mail.map encM) → ∃ (bs : List Addr) (kvs : List (Key × V)), xs = bs.map V.ref ∧ Paired (fun p kv => SqT K Hi p [kV kv.1, kv.2]) bs kvs ∧ kvs.map (·.1) = mail.map (fun m => (Sum.inl m.1 : Key)) ∧ ∀ m ∈ mail, ∃ v, ((Sum.inl m.1 : Key), v) ∈ kvs ∧ Dp K Hi v (dI m.2)
  | _, [], h => by
    cases h
    exact ⟨[], [], rfl, .nil, rfl, fun m hm => nomatch hm⟩
  | _, m :: r, h => by
    cases h with
    | cons h1 t =>
      obtain ⟨bs, kvs, e1, e2, e3, e4⟩ := mail_pairs t
      obtain ⟨b, vs, rfl, hs, ha⟩ := dp_tup h1
      cases ha with
      | cons g1 g2 =>
        cases g2 with
        | cons g2 g3 =>
          cases g3
          obtain rfl := dp_int g1
          refine ⟨b :: bs, (Sum.inl m.1, _) :: kvs, by rw [e1]; rfl, .cons hs e2, by rw [List.map_cons, e3]; rfl, fun m' hm' => ?_⟩
          rcases List.mem_cons.mp hm' with e | z
          · rw [e]
            exact ⟨_, List.mem_cons_self, g2⟩
          · obtain ⟨v, k1, k2⟩ := e4 m' z
            exact ⟨v, List.mem_cons_of_mem _ k1, k2⟩
theorem paired_len {α β : Type} {R : α → β → Prop} : ∀ {as : List α} {bs : List β}, Paired R as bs → as.length = bs.length
  | _, _, .nil => rfl
  | _, _, .cons _ t => by rw [List.length_cons, List.length_cons, paired_len t]
theorem paired_imp {α β : Type} {R S : α → β → Prop} (h : ∀ a b, R a b → S a b) : ∀ {as : List α} {bs : List β}, Paired R as bs → Paired S as bs
  | _, _, .nil => .nil
  | _, _, .cons a t => .cons (h _ _ a) (paired_imp h t)
section
variable {X : Cx} {C : Addr} {G : List SK} {pos q1 q2 q3 q4 q5 q6 : Pos} {lay : PyData} {p : Int}
/-- dict(o.mail())[n] -/
theorem pd_dictAt (n i : Nat) {x y : Str} {k j : Nat} {pl : Sem Bool} {fM : Addr} {fdM : FuncData} {init : Past} {st : PyData} {mail : NLM.Mail} {num : Int} {letter : List Int} (T : Rcls X.K C) (hM : Meth X.K C "mail" fM) (FM : FnOk X.prog X.w X.K X.mg X.base CX0 k fM fdM ["self"] (spMailP X.K C)) (bM : Binds X.K fdM ["self"] []) (hr : Room j X.A) (hc : X.calm = true) (hm : X.mg "dict" = none)
    (hk : IsR (G[n]?) p lay (dPast (init ++ [(st, mail)]))) (hi : G[i]? = some (.dat (.int num))) (hmem : (num, letter) ∈ mail) (hnd : (mail.map (·.1)).Nodup) (hl : mail.length ≤ 1000) (hkj : k ≤ j := by decide)
    (hN : X.N[n]? = some x := by rfl) (hv : Vis X.env.scope x := by first | exact Or.inl rfl | exact Or.inr (Or.inl rfl) | exact Or.inr (Or.inr rfl)) (hd : (x == ("__debug__" : Str)) = false := by decide) (hcd : (x == ("__classdict__" : Str)) = false := by decide)
    (hN2 : X.N[i]? = some y := by rfl) (hv2 : Vis X.env.scope y := by first | exact Or.inl rfl | exact Or.inr (Or.inl rfl) | exact Or.inr (Or.inr rfl)) (hd2 : (y == ("__debug__" : Str)) = false := by decide) (hcd2 : (y == ("__classdict__" : Str)) = false := by decide)
    (hg : Gl X "dict" := by rfl) (he : starEach [.Call (.Attribute (.Name x q1) "mail" q2) [] [] q3] X.env = (false, eval (.Call (.Attribute (.Name x q1) "mail" q2) [] [] q3) X.env) :: starEach [] X.env := by rfl)
    (ht : eval (.Call (.Attribute (.Name x q1) "mail" q2) [] [] q3) X.env = (do
      let ov ← eval (.Name x q1) X.env
      standAt q2.atName
      let (f, first) ← holding [ov] (getMethod ov "mail" pl)
      callWith q3 f first (backTo q3 (starEach [] X.env)) (backToKw q3 (keywordEach [] X.env))) := by rfl) :
    PE X (.Subscript (.Call (.Name "dict" q4) [.Call (.Attribute (.Name x q1) "mail" q2) [] [] q3] [] q5) (.Name y q6) pos) (tD X.K C G (dI letter)) := by
  refine pe_to (pe_dget (hu_of hr) (pe_callTy (call_dictT hc) hg hm (by decide +kernel) (pa_cons (pe_meth0 (pe_var hN hv hd hcd) T.cls hM FM (hr.mono hkj) bM .nil pass0 ht) pa_nil he) (by decide) (by decide) he (by rfl)) (pe_var hN2 hv2 hd2 hcd2) fun _ _ => rfl) ?_
  rintro σ H Q ⟨Z, Hi, S, k⟩
  obtain ⟨z, g1, g2⟩ := rcv_slot S hk
  obtain ⟨dx, fs, vl, vp, h1, h2, h3, h4, h5, h6, h7⟩ := g2.ex
  obtain ⟨pa, es, ds, rfl, y2, y3, y4⟩ := h7
  have eds : ds = init.map encR ++ [encR (st, mail)] := by
    unfold dPast at y4
    injection y4 with y4
    rw [← y4, List.map_append]
    rfl
  subst eds
  obtain ⟨es', e, rfl, ent⟩ := ents_last y3
  generalize hE : encR (st, mail) = dE at ent
  cases ent with
  | @mk b c stv d1 d2 k1 k2 k3 k4 =>
    unfold encR at hE
    injection hE with hE
    injection hE with hE1 hE2
    injection hE2 with hE2 hE3
    subst hE1 hE2
    have hpl : PlainAt X.K Hi c (dM mail) := k4.resolve_right fun e => by
      unfold dM at e
      injection e with e
      have em : mail = [] := List.map_eq_nil_iff.mp e
      rw [em] at hmem
      cases hmem
    obtain ⟨o, xs, ds2, m1, m2, m3, m4⟩ := hpl
    unfold dM at m4
    injection m4 with m4
    subst m4
    obtain ⟨bs, kvs, rfl, n2, n3, n4⟩ := mail_pairs m3
    obtain ⟨v, w1, w2⟩ := n4 _ hmem
    have hkl : bs.length ≤ 1000 := by
      have q1 := paired_len n2
      have q2 := congrArg List.length n3
      rw [List.length_map, List.length_map] at q2
      omega
    have ndk : (kvs.map (·.1)).Nodup := by
      rw [n3]
      have e : (mail.map fun m => (Sum.inl m.1 : Key)) = (mail.map (·.1)).map (fun i => (Sum.inl i : Key)) := by rw [List.map_map]; rfl
      rw [e]
      exact List.Pairwise.map _ (fun a b h e => h (by injection e)) hnd
    refine ⟨.ref z, g1, z, dx, fs, rfl, h1, h5 _ (by decide), ?_⟩
    refine ⟨z, dx, fs, pa, _, b, stv, .ref c, rfl, h1, h4, same_t S.sub y2, atI_last _ _, same_t S.sub k1, ?_⟩
    refine ⟨c, o, bs, kvs, rfl, S.sub _ _ m1, m2, paired_imp (fun p kv h => same_t S.sub h) n2, hkl, fun p hp => ?_⟩
    obtain ⟨vn, u1, u2⟩ := S.ok i _ hi
    obtain rfl := dp_int u2
    refine ⟨.int num, u1, p, v, rfl, ?_, k v Hi _ (Ext.grow S.sub (same_new hp)) w2⟩
    have hval : valV (mergeK [] kvs) (Sum.inl num : Key) = some v := by
      rw [mergeK_nd kvs [] ndk, List.nil_append]
      exact valV_mem ndk w1
    rw [← hval]
    exact DGet.k (k := Sum.inl num) upd_same
end
section
variable {P : Program} {w : World} {K : PySem.W.Frag} {mg : Str → Option Value} {base : Heap} {C f fM : Addr} {fd fdM : FuncData}
def PreDrop (ms : List SK) (ds : List PyData) : Prop := ∃ a p lay ps mail k n letter, Own1 a p lay ps mail k ∧ ps.length ≤ 800 ∧ (n, letter) ∈ mail ∧ ms = [k] ∧ ds = [.int n]
def PostDrop (ms : List SK) (ds : List PyData) (d : PyData) (ms' : List SK) : Prop := ∃ a p lay ps mail k n letter, Own1 a p lay ps mail k ∧ ms = [k] ∧ ds = [.int n] ∧ (n, letter) ∈ mail ∧ ∃ k' st, Own1 a p lay (ps ++ [(st, NLM.without mail n)]) (NLM.without mail n) k' ∧ d = dI letter ∧ ms' = [k']
theorem sc_drop : FnScope ["self", "number", "found", "came", "pair"] ["self", "number"] (defScope (inC 6)) := ⟨rfl, rfl, rfl, by decide +kernel, rfl, by decide +kernel, by decide +kernel⟩
theorem ok_drop (T0 : Free mg) (T : Rcls K C) (hD : ∃ t, mg "DROP" = some (.str "drop" t)) (ci : CalD P w K mg base C 1 "is_integer" R_is_integer) (hM : Meth K C "mail" fM) (FM : FnOk P w K mg base CX0 1 fM fdM ["self"] (spMailP K C)) (bM : Binds K fdM ["self"] []) (cm : MetD P w K mg base C 1 "mail" R_mail) (ch : MetD P w K mg base C 2 "here" R_here)
    (F : FnP K "drop" "Receiver.drop" (inC 6) [] f fd) (hm : Meth K C "drop" f) : MetM P w K mg base C 3 "drop" [] PreDrop PostDrop := by
  refine met_sm F hm sc_drop (F.bindsN fun _ _ _ _ _ _ us hl => match us, hl with | [_, _], _ => rfl) .nil (fun _ => .nil) (fun ms ds ⟨_, _, _, _, _, _, _, _, _, _, _, h1, h2⟩ => by rw [h1, h2] <;> rfl) fun cdv A outer s H E ms ds hr ⟨a, p, lay, ps, mail, k, n, letter, O, hps, hmem, h1, h2⟩ => ?_
  obtain ⟨hl, hM1, ⟨init, st0, eps⟩, _, ek⟩ := id O
  subst h1 h2 ek
  have L := O.live
  have h8 := hl.l8
  have hsh := hM1.short
  have hnd : (mail.map (·.1)).Nodup := by
    unfold List.Nodup
    rw [List.pairwise_map]
    exact hM1.asc.imp fun {a b} z => by omega
  refine sm_pure (sd_no (pd_isT (pt_or (k1 := false) (pt_notD (k1 := true) (pt_valD (pd_call ci hr (da_cons (pd_var 1 rfl) da_nil) ⟨n, rfl, rfl⟩))) fun _ => pw_or1 (pt_cmpD op_notIn_seq (pd_var 1 rfl) (pd_meth0 0 T ch hr .m ⟨_, p, lay, mail, L, rfl, rfl⟩) (opd_inL (neg := true)))).pt ?_)) ?_
  · rw [if_pos rfl, is_here hmem]
    rfl
  refine sm_pure (sd_set 2 sc_drop.nd (d := dI letter) (pd_dictAt 0 1 (init := init) (st := st0) (mail := mail) T hM FM bM hr rfl T0.dict (by rw [← eps]; exact .m) rfl hmem hnd (by omega))) ?_
  have hM' : NLM.MailOk p lay (NLM.without mail n) := hM1.sub List.filter_sublist
  refine sm_pure (sd_setP 3 sc_drop.nd T0.tuple (pd_lcT (own := [("pair", 4)]) (pt := .nm 4) mail encM (fun x => !decide (x.1 = n)) encM (gb := fun x => [.rcm a p (dI lay) (dPast ps), .dat (.int n), .dat (dI letter), .un, .dat (encM x)]) rfl sc_drop.nd (di_tup (pd_meth0 0 T cm hr .m ⟨_, p, lay, mail, L, rfl, rfl⟩)) (blkOk_by rfl) (fun _ _ _ _ _ => pg_nm 4 sc_drop.nd) (lt_size (by omega)) ins1 (fun x hx => .nm)
    (fun x hx s H C' cl fp => pts_one (pt_neI (pd_ixT (d := .int x.1) (pd_var 4 rfl) pd_int (atI_nat (j := 0) rfl)) (pd_var 1 rfl))) (fun x hx hb s H C' cl fp => pd_var 4 rfl))) ?_
  have ep : dPast (ps ++ [(.tuple [.str "drop", .int n], NLM.without mail n)]) = .tuple (ps.map encR ++ [.tuple [.tuple [.str "drop", .int n], dM (NLM.without mail n)]]) := past_snoc _ _
  refine sm_seq (G1 := [.rcm a p (dI lay) (dPast (ps ++ [(.tuple [.str "drop", .int n], NLM.without mail n)])), .dat (.int n), .dat (dI letter), .pdt (.tuple ((NLM.without mail n).map encM)), .un]) (sm_fset 0 T rfl (pv_past 0 3 T .m (pd_tup (ds_cons (pd_gstr hD) (ds_cons (pd_var 1 rfl) ds_nil)) (by show 2 ≤ sizeLine; decide)) rfl (by rw [map_len]; omega)) (by rw [ep]; rfl)) ?_
  have O' : Own1 a p lay (ps ++ [(.tuple [.str "drop", .int n], NLM.without mail n)]) (NLM.without mail n) (.rcm a p (dI lay) (dPast (ps ++ [(.tuple [.str "drop", .int n], NLM.without mail n)]))) := ⟨hl, hM', ⟨ps, _, rfl⟩, by rw [List.length_append]; show _ + 1 ≤ 900; omega, rfl⟩
  exact sm_last (sm_ret (te_p (M := fun d G' => d = dI letter ∧ G'.take 1 = [.rcm a p (dI lay) (dPast (ps ++ [(.tuple [.str "drop", .int n], NLM.without mail n)]))]) (pd_var 2 rfl) ⟨rfl, rfl⟩) fun d G' ⟨e, hG⟩ => ⟨_, ⟨a, p, lay, ps, mail, _, n, letter, O, rfl, rfl, hmem, _, _, O', e, rfl⟩, rfl, hG⟩)
/-- while __init__ writes at x -/
structure InX (x : Addr) (Hi H Hi' H' : Hp) : Prop where
  up : Same Hi Hi'
  sub : ∀ b o, Hi' b = some o → b ≠ x ∧ H' b = some o
  old : ∀ b o, b ≠ x → H b = some o → H' b = some o
  new : ∀ b o, Hi' b = some o → Hi b = some o ∨ H b = none
  at_ : H' x ≠ none
theorem InX.put {x : Addr} {Hi H Hi' H' : Hp} (i : InX x Hi H Hi' H') (o : HO) : InX x Hi H Hi' (upd H' x o) :=
  ⟨i.up, fun b o h => ⟨(i.sub b o h).1, by rw [upd_ne (i.sub b o h).1]; exact (i.sub b o h).2⟩, fun b o hb h => by rw [upd_ne hb]; exact i.old b o hb h, i.new, by rw [upd_same]; exact fun z => nomatch z⟩
theorem InX.free {x p : Addr} {Hi H Hi' H' : Hp} (i : InX x Hi H Hi' H') (hp : H' p = none) : Hi' p = none := by
  cases h : Hi' p with
  | none => rfl
  | some o => have := (i.sub p o h).2; rw [hp] at this; cases this
theorem InX.add {x p : Addr} {Hi H Hi' H' : Hp} (i : InX x Hi H Hi' H') (hp : H' p = none) (o : HO) : InX x Hi H (upd Hi' p o) (upd H' p o) := by
  have px : p ≠ x := fun z => i.at_ (z ▸ hp)
  have hip : Hi' p = none := by
    cases h : Hi' p with
    | none => rfl
    | some o => have := (i.sub p o h).2; rw [hp] at this; cases this
  refine ⟨i.up.trans (same_new hip), fun b o' h => ?_, fun b o' hb h => ?_, fun b o' h => ?_, by rw [upd_ne (Ne.symm px)]; exact i.at_⟩
  · by_cases e : b = p
    · subst e
      rw [upd_same] at h ⊢
      exact ⟨px, h⟩
    · rw [upd_ne e] at h ⊢
      exact i.sub b o' h
  · by_cases e : b = p
    · subst e
      have := i.old b o' hb h
      rw [hp] at this
      cases this
    · rw [upd_ne e]
      exact i.old b o' hb h
  · by_cases e : b = p
    · subst e
      right
      cases q : H b with
      | none => rfl
      | some o2 => have := i.old b o2 px q; rw [hp] at this; cases this
    · rw [upd_ne e] at h
      exact i.new b o' h
/-- what __init__ promises -/
def spInit (K : PySem.W.Frag) (C : Addr) : Sp := fun vs H Q _ => ∃ Hi x dx p lay vl, vs = [V.ref x, .int p, vl] ∧ Same Hi H ∧ H x = some (.ins C dx []) ∧ Hi x = none ∧ Dp K Hi vl (dI lay) ∧ p ∈ NLM.PR ∧ NLM.LayOk lay ∧
  ∀ Hi' H', Same Hi Hi' → Same Hi' H' → (∀ b o, b ≠ x → H b = some o → H' b = some o) → (∀ b o, Hi' b = some o → Hi b = some o ∨ H b = none) → RcvAt K C Hi' H' x p (dI lay) (dPast [(.tuple [], [])]) → Q .non H'
theorem sc_init : FnScope ["self", "prime", "laying"] ["self", "prime", "laying"] (defScope (inC 0)) := ⟨rfl, rfl, rfl, by decide +kernel, rfl, by decide +kernel, by decide +kernel⟩
theorem ok_init (T : Rcls K C) (cp : CalD P w K mg base C 2 "need_prime" R_need_prime) (cl : CalD P w K mg base C 4 "need_laying" R_need_laying) (F : FnP K "__init__" "Receiver.__init__" (inC 0) [] f fd) : FnOk P w K mg base CX0 5 f fd ["self", "prime", "laying"] (spInit K C) := by
  refine F.ok sc_init (fun vs H Q E ⟨_, _, _, _, _, _, h, _⟩ => by rw [h] <;> rfl) fun cdv A outer s H vs Q E hr h => ?_
  obtain ⟨Hi, x, dx, p, lay, vl, rfl, s0, hx, hix, hvl, hp, hl, q⟩ := h
  have hb : ∀ X : Cx, X = cxOf CX0 P w K mg base ["self", "prime", "laying"] "Receiver.__init__" (defScope (inC 0)) f cdv A outer s H E → PSs X (defBody (inC 0)) _ := fun X hX => by
    subst hX
    exact pss_cons (ps_expr (pd_call (C := C) (G := [.un, .dat (.int p), .dat (dI lay)]) cp hr (da_cons (pd_var 1 rfl) da_nil) ⟨p, hp, rfl, rfl⟩)) (pss_cons (ps_expr (pd_call (C := C) (G := [.un, .dat (.int p), .dat (dI lay)]) cl hr (da_cons (pd_var 2 rfl) da_nil) ⟨lay, hl, rfl, rfl⟩))
      (pss_cons (ps_fld (pe_var (i := 0) rfl (.inl rfl)) (pe_var (i := 1) rfl (.inl rfl)) rfl) (pss_cons (ps_fld (pe_var (i := 0) rfl (.inl rfl)) (pe_var (i := 2) rfl (.inl rfl)) rfl)
        (pss_one (ps_fld (pe_var (i := 0) rfl (.inl rfl)) (pe_tup (pa_cons (pe_tup (pa_cons (pe_tup pa_nil) (pa_cons (pe_tup pa_nil) pa_nil))) pa_nil)) rfl)))))
  refine ⟨_, hb _ rfl, ?_⟩
  have S0 : SlotsOk K C H Hi H (L2.start ["self", "prime", "laying"] [V.ref x, V.int p, vl]) [.un, .dat (.int p), .dat (dI lay)] := by
    refine ⟨rfl, s0, fun i k e => ?_, fun i j k l a e1 e2 m1 m2 => ?_⟩
    · match i, e with
      | 0, e => injection e with e; subst e; trivial
      | 1, e => injection e with e; subst e; exact ⟨_, rfl, .int p⟩
      | 2, e => injection e with e; subst e; exact ⟨_, rfl, hvl⟩
    · match i, e1 with
      | 0, e => injection e with e; subst e; cases m1
      | 1, e => injection e with e; subst e; cases m1
      | 2, e => injection e with e; subst e; cases m1
  refine ⟨H, Hi, S0, fun v1 Hi1 H1 e1 _ => ⟨H, Hi1, S0.ext e1, fun v2 Hi2 H2 e2 _ => ?_⟩⟩
  have e := e1.trans e2
  have hx2 := e.same _ _ hx
  have I0 : InX x Hi H Hi2 H2 := by
    refine ⟨e.up, fun b o h => ⟨fun z => ?_, e.sub b o h⟩, fun b o _ h => e.same b o h, e.new, by rw [hx2]; exact fun z => nomatch z⟩
    subst z
    rcases e.new b o h with q | q
    · rw [hix] at q; cases q
    · rw [hx] at q; cases q
  refine ⟨.int p, rfl, .ref x, rfl, x, C, dx, [], rfl, hx2, T.cls, T.np, by show 0 < 1000; decide, ?_⟩
  refine ⟨vl, rfl, .ref x, rfl, x, C, dx, [("own_prime", .int p)], rfl, upd_same, T.cls, T.nl, by show 1 < 1000; decide, ?_⟩
  refine ⟨by show 0 ≤ sizeLine; decide, fun p1 h1 => ⟨by show 0 ≤ sizeLine; decide, fun p2 h2 => ⟨by show 2 ≤ sizeLine; decide, fun p3 h3 => ⟨by show 1 ≤ sizeLine; decide, fun p4 h4 => ?_⟩⟩⟩⟩
  have I1 := ((I0.put (.ins C dx [("own_prime", .int p)])).put (.ins C dx [("own_prime", .int p), ("own_laying", vl)])).add h1 (.tup [])
  have I2 := I1.add h2 (.tup [])
  have I3 := I2.add h3 (.tup [.ref p1, .ref p2])
  have I4 := I3.add h4 (.tup [.ref p3])
  refine ⟨.ref x, rfl, x, C, dx, [("own_prime", .int p), ("own_laying", vl)], rfl, ?_, T.cls, T.nh, by show 2 < 1000; decide, ?_⟩
  · exact same_new h4 _ _ (same_new h3 _ _ (same_new h2 _ _ (same_new h1 _ _ upd_same)))
  · have I5 := I4.put (.ins C dx [("own_prime", .int p), ("own_laying", vl), ("own_past", .ref p4)])
    have sub5 : Same _ _ := fun b o h => (I5.sub b o h).2
    have t4 := I4.sub
    refine q _ _ I5.up sub5 I5.old I5.new ⟨dx, _, vl, .ref p4, upd_same, ⟨rfl, by show 3 ≤ 3; decide⟩, rfl, rfl, fun m hm => ?_, dp_mono I5.up _ _ hvl, p4, [.ref p3], [.tuple [.tuple [], .tuple []]], rfl, ?_, .cons (.mk (st := .ref p1) (c := p2) ?_ (.tup ?_ .nil) (.tup ?_ .nil) (.inr rfl)) .nil, rfl⟩
    · have hmm : ∀ g : Str, g ∈ flds → m ≠ g := fun g hg z => hm (z ▸ hg)
      rw [lookup_putF, if_neg (hmm _ (by decide))]
      show List.lookup m (putF "own_laying" vl (putF "own_prime" (.int p) [])) = none
      rw [lookup_putF, if_neg (hmm _ (by decide)), lookup_putF, if_neg (hmm _ (by decide))]
      rfl
    · exact .inl (.inl upd_same)
    · exact .inl (.inl (same_new (I3.free h4) _ _ upd_same))
    · exact .inl (.inl (same_new (I3.free h4) _ _ (same_new (I2.free h3) _ _ (same_new (I1.free h2) _ _ upd_same))))
    · exact .inl (.inl (same_new (I3.free h4) _ _ (same_new (I2.free h3) _ _ upd_same)))
end
end NL
set_option maxHeartbeats 2000000
/-! The law's draws. -/
namespace NL
open PySem PySem.Spec PyProof.Rows L2 StX
structure StOk (cells lefts : List Int) (t : Int) (n : Nat) : Prop where
  t0 : 0 ≤ t
  tn : t ≤ n
  len : cells.length = lefts.length
  l1 : 1 ≤ cells.length
  l2 : cells.length ≤ 1000
  pos : ∀ i ∈ lefts, 0 ≤ i
/-- a state that has drawn at most n times -/
def IsSt (a l : Addr) (n : Nat) (k : SK) : Prop := ∃ cells lefts t, k = .st a l cells lefts t ∧ StOk cells lefts t n
theorem IsSt.mono {a l : Addr} {n m : Nat} {k : SK} (h : IsSt a l n k) (hm : n ≤ m) : IsSt a l m k :=
  let ⟨c, f, t, e, o⟩ := h
  ⟨c, f, t, e, ⟨o.t0, by have := o.tn; omega, o.len, o.l1, o.l2, o.pos⟩⟩
theorem atI_of {ns : List Int} {j : Int} (h0 : 0 ≤ j) (h1 : j < ns.length) : atI ns j = some (ns.getD j.toNat 0) ∧ ixN ns.length j = some j.toNat := by
  have e : ixN ns.length j = some j.toNat := by
    unfold ixN
    rw [if_pos h0, if_pos h1]
  refine ⟨?_, e⟩
  unfold atI
  rw [e]
  show ns[j.toNat]? = _
  rw [List.getD_eq_getElem?_getD, List.getElem?_eq_getElem (show j.toNat < ns.length by omega)]
  rfl
section
variable {P : Program} {w : World} {K : PySem.W.Frag} {mg : Str → Option Value} {base : Heap} {C f : Addr} {fd : FuncData}
def PreDraw (ms : List SK) (ds : List PyData) : Prop := ∃ a l n k many, IsSt a l n k ∧ n < 1000000 ∧ 1 ≤ many ∧ many ≤ 1000000 ∧ ms = [k] ∧ ds = [.int many]
def PostDraw (ms : List SK) (ds : List PyData) (d : PyData) (ms' : List SK) : Prop := ∃ a l cells lefts t many r lefts', ms = [.st a l cells lefts t] ∧ ds = [.int many] ∧ d = .int r ∧ 0 ≤ r ∧ r < many ∧ ms' = [.st a l cells lefts' (t + 1)] ∧ lefts'.length = lefts.length ∧ ∀ i ∈ lefts', 0 ≤ i
theorem post_draw {a l : Addr} {n : Nat} {k : SK} {many : Int} {d : PyData} {ms' : List SK} (h : IsSt a l n k) (p : PostDraw [k] [.int many] d ms') : ∃ r k', d = .int r ∧ 0 ≤ r ∧ r < many ∧ IsSt a l (n + 1) k' ∧ ms' = [k'] := by
  obtain ⟨c, f, t, rfl, o⟩ := h
  obtain ⟨a2, l2, c2, f2, t2, m2, r, f', e1, e2, e3, h0, h1, e4, hl, hp⟩ := p
  injection e1 with e1
  injection e1 with q1 q2 q3 q4 q5
  injection e2 with e2
  injection e2 with e2
  subst q1 q2 q3 q4 q5 e2
  exact ⟨r, _, e3, h0, h1, ⟨c, f', t + 1, rfl, ⟨by have := o.t0; omega, by have := o.tn; omega, by rw [hl]; exact o.len, o.l1, o.l2, hp⟩⟩, e4⟩
theorem sc_draw : FnScope ["_law_state", "_law_many", "_law_at", "_law_place", "_law_left", "_law_number"] ["_law_state", "_law_many"] (defScope sDraw) := ⟨rfl, rfl, rfl, by decide +kernel, rfl, by decide +kernel, by decide +kernel⟩
theorem ok_draw (T : Free mg) (c : CalD P w K mg base C 1 "_law_mixed" R_mixed) (F : FnP K "_law_draw" "_law_draw" sDraw [] f fd) (hm : mg "_law_draw" = some (.ref f)) : CalG P w K mg base 2 "_law_draw" (SpM K C PreDraw PostDraw) := by
  refine cal_sm F hm sc_draw (fun _ _ _ _ _ _ us hl => match us, hl with | [_, _], _ => rfl) (fun ms ds ⟨_, _, _, _, _, _, _, _, _, h1, h2⟩ => by rw [h1, h2] <;> rfl) fun cdv A outer s H E ms ds hgd hr ⟨a, l, n, k, many, ⟨cells, lefts, t, hk, o⟩, hn, hm1, hm2, h1, h2⟩ => ?_
  subst hk h1 h2
  have h0 := o.t0
  have hl1 := o.l1
  have htn := o.tn
  have hp0 := Int.emod_nonneg t (show (cells.length : Int) ≠ 0 by omega)
  have hp1 := Int.emod_lt_of_pos t (show (0 : Int) < cells.length by omega)
  have hat := atI_of (ns := lefts) hp0 (by rw [← o.len]; exact hp1)
  have hatc := atI_of (ns := cells) hp0 hp1
  have hleft : 0 ≤ lefts.getD (t % (cells.length : Int)).toNat 0 := by
    have hlt : (t % (cells.length : Int)).toNat < lefts.length := by
      have := o.len
      omega
    rw [List.getD_eq_getElem?_getD, List.getElem?_eq_getElem hlt]
    exact o.pos _ (List.getElem_mem hlt)
  refine sm_pure (sd_set 2 sc_draw.nd (pd_stAt 0 hr rfl)) ?_
  refine sm_seq (sm_stAt 0 hr rfl (pd_add (pd_var 2 rfl) pd_int) rfl) ?_
  refine sm_pure (sd_set 3 sc_draw.nd (d := .int (t % (cells.length : Int))) (pd_is (pd_mod (pd_intC T.int (pd_var 2 rfl)) (pd_lenL T.len (pd_stCells 0 hr rfl)) (by rw [map_len]; omega)) (by rw [map_len]))) ?_
  refine sm_pure (sd_set 4 sc_draw.nd (pd_stLeft (m := 0) 0 hr rfl (pd_var 3 rfl) hat.1)) ?_
  refine sm_cons (N1 := fun g => g = _) (sm_ifP (pt_gt (pd_var 4 rfl) pd_int) (fun _ => ?_) fun _ => sm_end rfl (Weak.refl _)) fun G1 e => ?_
  · refine sm_seq (sm_stLeft 0 hr rfl (pd_fdiv (pd_var 4 rfl) (pd_var 1 rfl) ⟨by omega, by omega⟩) (pd_var 3 rfl) hat.2 rfl) ?_
    refine sm_last (sm_ret (te_p (M := fun d G' => d = .int (lefts.getD (t % (cells.length : Int)).toNat 0 % many) ∧ G'.take 1 = [SK.st a l cells (lefts.set (t % (cells.length : Int)).toNat (lefts.getD (t % (cells.length : Int)).toNat 0 / many)) (t + 1)]) (pd_mod (pd_intC T.int (pd_var 4 rfl)) (pd_var 1 rfl) (by omega)) ⟨rfl, rfl⟩) ?_)
    rintro d G' ⟨rfl, hG⟩
    refine ⟨_, ⟨a, l, cells, lefts, t, many, _, _, rfl, rfl, rfl, Int.emod_nonneg _ (by omega), Int.emod_lt_of_pos _ (by omega), rfl, List.length_set, fun i hi => ?_⟩, rfl, hG⟩
    rcases List.mem_or_eq_of_mem_set hi with m | e
    · exact o.pos i m
    · rw [e]
      exact Int.ediv_nonneg hleft (by omega)
  · subst e
    refine sm_pure (sd_set 5 sc_draw.nd (d := .int (mixedV (mixedV (cells.getD (t % (cells.length : Int)).toNat 0) t) (40 + t))) (pd_call c hr (da_cons (pd_call c hr (da_cons (pd_ixL (pd_stCells 0 hr rfl) (pd_var 3 rfl) (d := .int (cells.getD (t % (cells.length : Int)).toNat 0)) ?_) (da_cons (pd_var 2 rfl) da_nil)) ⟨_, t, h0, by omega, rfl, rfl⟩) (da_cons (pd_add pd_int (pd_var 2 rfl)) da_nil)) ⟨_, 40 + t, by omega, by omega, rfl, rfl⟩)) ?_
    · have e := hatc.1
      unfold atI at e ⊢
      rw [map_len, hatc.2] at *
      show (cells.map PyData.int)[_]? = _
      have e' : cells[(t % (cells.length : Int)).toNat]? = some (cells.getD (t % (cells.length : Int)).toNat 0) := e
      rw [List.getElem?_map, e']
      rfl
    · have hmx := mixedV_range (mixedV (cells.getD (t % (cells.length : Int)).toNat 0) t) (40 + t)
      refine sm_last (sm_ret (te_p (M := fun d G' => (∃ r, d = .int r ∧ 0 ≤ r ∧ r < many) ∧ G'.take 1 = [SK.st a l cells lefts (t + 1)]) (pd_mod (pd_fdiv (pd_intC T.int (pd_add (pd_mul (pd_var 5 rfl) pd_int (cmul_r (by omega))) (pd_call c hr (da_cons (pd_var 5 rfl) (da_cons (pd_add pd_int (pd_var 2 rfl)) da_nil)) ⟨_, 7 + t, by omega, by omega, rfl, rfl⟩))) pd_int ⟨by omega, by omega⟩) (pd_var 1 rfl) (by omega)) ⟨⟨_, rfl, Int.emod_nonneg _ (by omega), Int.emod_lt_of_pos _ (by omega)⟩, rfl⟩) ?_)
      rintro d G' ⟨⟨r, rfl, r0, r1⟩, hG⟩
      exact ⟨_, ⟨a, l, cells, lefts, t, many, r, lefts, rfl, rfl, rfl, r0, r1, rfl, rfl, o.pos⟩, rfl, hG⟩
end
section
variable {X : Cx} {C : Addr} {G : List SK} {e : Expr} {pos p p2 : Pos} {x : Str} {k : SK} {a l : Addr} {n j : Nat} {many : Int}
/-- _law_draw(state, many) -/
theorem te_draw (i : Nat) (c : CalG X.prog X.w X.K X.mg X.base 2 "_law_draw" (SpM X.K C PreDraw PostDraw)) (hgd : X.A.guards = some []) (hr : Room j X.A) (hk : G[i]? = some k) (hs : IsSt a l n k) (hn : n < 1000000) (he : PE X e (tD X.K C G (.int many))) (h1 : 1 ≤ many) (h2 : many ≤ 1000000) (nR : noRB G = true := by rfl) (hkj : 2 ≤ j := by decide)
    (hN : X.N[i]? = some x := by rfl) (hv : Vis X.env.scope x := by first | exact Or.inl rfl | exact Or.inr (Or.inl rfl) | exact Or.inr (Or.inr rfl)) (hd : (x == ("__debug__" : Str)) = false := by decide) (hcd : (x == ("__classdict__" : Str)) = false := by decide)
    (hg : Gl X "_law_draw" := by rfl) (hst : starEach [.Name x p2, e] X.env = (false, eval (.Name x p2) X.env) :: starEach [e] X.env := by rfl) (hst2 : starEach [e] X.env = (false, eval e X.env) :: starEach [] X.env := by rfl) (hpl : (backTo pos (starEach [e] X.env)).any (·.1) = false := by rfl) :
    PE X (.Call (.Name "_law_draw" p) [.Name x p2, e] [] pos) (tE X.K C G (fun d G' => ∃ r k', d = .int r ∧ 0 ≤ r ∧ r < many ∧ IsSt a l (n + 1) k' ∧ G' = G.set i k')) := by
  have ad : (adOf k).isSome = true := by
    obtain ⟨_, _, _, rfl, _⟩ := hs
    rfl
  refine te_call (is := [i]) (ms := [k]) (ds := [.int many]) c hgd hr (am_sl i hk ad (am_dt (ds_cons he ds_nil hst2)) hN hv hd hcd hst) (.cons hk ad .nil) ⟨a, l, n, k, many, hs, hn, h1, h2, rfl, rfl⟩ (fun d ms' hp _ => ?_) nR (by simp) hkj hg (by decide) hst hpl
  obtain ⟨r, k', h3, h4, h5, h6, h7⟩ := post_draw hs hp
  subst h7
  exact ⟨r, k', h3, h4, h5, h6, rfl⟩
end
end NL
set_option maxHeartbeats 2000000
/-! The law's draws: one of some, a prime, an altered letter. -/
namespace NL
open PySem PySem.Spec PyProof.Rows L2 StX
def StTo (c : Nat) (k k' : SK) : Prop := ∀ a l n, IsSt a l n k → IsSt a l (n + c) k'
theorem ad_st {a l : Addr} {n : Nat} {k : SK} (h : IsSt a l n k) : adOf k = some a := by
  obtain ⟨_, _, _, rfl, _⟩ := h
  rfl
theorem st_exact {a l : Addr} {n : Nat} {k : SK} (h : IsSt a l n k) : ∃ m, m ≤ n ∧ IsSt a l m k ∧ ∀ c k', IsSt a l (m + c) k' → StTo c k k' := by
  obtain ⟨cells, lefts, t, rfl, o⟩ := h
  have t0 := o.t0
  have tn := o.tn
  refine ⟨t.toNat, by omega, ⟨cells, lefts, t, rfl, ⟨t0, by omega, o.len, o.l1, o.l2, o.pos⟩⟩, fun c k' hk a' l' n' h' => ?_⟩
  obtain ⟨_, _, _, e, o'⟩ := h'
  injection e with e1 e2 e3 e4 e5
  subst e1 e2 e5
  exact hk.mono (by have := o'.tn; omega)
/-- the post of a def that draws at most c times; Pd: what it gives -/
def PostS (c : Nat) (Pd : List PyData → PyData → Prop) (ms : List SK) (ds : List PyData) (d : PyData) (ms' : List SK) : Prop := ∃ k k', ms = [k] ∧ ms' = [k'] ∧ StTo c k k' ∧ Pd ds d
def PreS (Pa : Nat → List PyData → Prop) (ms : List SK) (ds : List PyData) : Prop := ∃ a l n k, IsSt a l n k ∧ ms = [k] ∧ Pa n ds
section
variable {X : Cx} {C : Addr} {G : List SK} {e : Expr} {es : List Expr} {pos p p2 : Pos} {x y : Str} {k : SK} {a l : Addr} {n j kk c : Nat} {ds : List PyData} {Pa : Nat → List PyData → Prop} {Pd : List PyData → PyData → Prop}
/-- f(state, ..), f drawing -/
theorem te_callS (i : Nat) (cl : CalG X.prog X.w X.K X.mg X.base kk y (SpM X.K C (PreS Pa) (PostS c Pd))) (hgd : X.A.guards = some []) (hr : Room j X.A) (hk : G[i]? = some k) (hs : IsSt a l n k) (ha : PA X es (tDs X.K C G ds)) (hp : Pa n ds) (nR : noRB G = true := by rfl) (hkj : kk ≤ j := by decide)
    (hN : X.N[i]? = some x := by rfl) (hv : Vis X.env.scope x := by first | exact Or.inl rfl | exact Or.inr (Or.inl rfl) | exact Or.inr (Or.inr rfl)) (hd : (x == ("__debug__" : Str)) = false := by decide) (hcd : (x == ("__classdict__" : Str)) = false := by decide)
    (hg : Gl X y := by rfl) (hdb : (y == ("__debug__" : Str)) = false := by decide) (hst : starEach (.Name x p2 :: es) X.env = (false, eval (.Name x p2) X.env) :: starEach es X.env := by rfl) (hpl : (backTo pos (starEach es X.env)).any (·.1) = false := by rfl) :
    PE X (.Call (.Name y p) (.Name x p2 :: es) [] pos) (tE X.K C G (fun d G' => ∃ k', IsSt a l (n + c) k' ∧ Pd ds d ∧ G' = G.set i k')) := by
  have ad : (adOf k).isSome = true := by rw [ad_st hs]; rfl
  refine te_call (is := [i]) (ms := [k]) (ds := ds) cl hgd hr (am_sl i hk ad (am_dt ha) hN hv hd hcd hst) (.cons hk ad .nil) ⟨a, l, n, k, hs, rfl, hp⟩ (fun d ms' ⟨k0, k', h1, h2, h3, h4⟩ _ => ?_) nR (by simp) hkj hg hdb hst hpl
  injection h1 with h1
  subst h1 h2
  exact ⟨k', h3 a l n hs, h4, rfl⟩
end
section
variable {P : Program} {w : World} {K : PySem.W.Frag} {mg : Str → Option Value} {base : Heap} {C f : Addr} {fd : FuncData}
theorem atI_of' {items : List PyData} {r : Int} (h0 : 0 ≤ r) (h1 : r < items.length) : atI items r = some (items.getD r.toNat .none) ∧ items.getD r.toNat .none ∈ items := by
  have hlt : r.toNat < items.length := by omega
  have e : r = ((r.toNat : Nat) : Int) := by omega
  rw [List.getD_eq_getElem?_getD, List.getElem?_eq_getElem hlt]
  refine ⟨?_, List.getElem_mem hlt⟩
  have z : atI items ((r.toNat : Nat) : Int) = some items[r.toNat] := atI_nat (List.getElem?_eq_getElem hlt)
  rw [← e] at z
  exact z
theorem fin_s {c : Nat} {Pd : List PyData → PyData → Prop} {a l : Addr} {m : Nat} {k k' : SK} {ds : List PyData} {d : PyData} {G : List SK} (hk : IsSt a l m k) (hk' : IsSt a l (m + c) k') (hx : ∀ c k', IsSt a l (m + c) k' → StTo c k k') (hd : Pd ds d) (hG : G.take 1 = [k']) : Fin (PostS c Pd) [k] ds d G :=
  ⟨[k'], ⟨k, k', rfl, rfl, hx c k' hk', hd⟩, by show [adOf k'] = [adOf k]; rw [ad_st hk, ad_st hk'], hG⟩
abbrev PaOf : Nat → List PyData → Prop := fun n ds => n < 900000 ∧ ∃ items, items ≠ [] ∧ items.length ≤ 1000 ∧ ds = [.list items]
abbrev PdOf : List PyData → PyData → Prop := fun ds d => ∃ items, ds = [.list items] ∧ d ∈ items
theorem sc_of : FnScope ["_law_state", "_law_some"] ["_law_state", "_law_some"] (defScope sOf) := ⟨rfl, rfl, rfl, by decide +kernel, rfl, by decide +kernel, by decide +kernel⟩
theorem ok_of (T : Free mg) (c : CalG P w K mg base 2 "_law_draw" (SpM K C PreDraw PostDraw)) (F : FnP K "_law_of" "_law_of" sOf [] f fd) (hm : mg "_law_of" = some (.ref f)) : CalG P w K mg base 3 "_law_of" (SpM K C (PreS PaOf) (PostS 1 PdOf)) := by
  refine cal_sm F hm sc_of (fun _ _ _ _ _ _ us hl => match us, hl with | [_, _], _ => rfl) (fun ms ds ⟨_, _, _, _, _, h1, _, _, _, _, h2⟩ => by rw [h1, h2] <;> rfl) fun cdv A outer s H E ms ds hgd hr ⟨a, l, n, k, hs, h1, hn, items, hne, hl, h2⟩ => ?_
  subst h1 h2
  obtain ⟨m, hmn, hsm, hx⟩ := st_exact hs
  have nR : noRB ([k] ++ List.map SK.dat [.list items] ++ List.replicate 0 .un) = true := by
    obtain ⟨_, _, _, rfl, _⟩ := hs
    rfl
  have hlen : 1 ≤ items.length := List.length_pos_iff.mpr hne
  refine sm_last (sm_ret (te_ixL (M := fun d G' => ∃ k', IsSt a l (m + 1) k' ∧ d ∈ items ∧ G'.take 1 = [k']) (te_p (M := fun d G' => d = .list items ∧ G' = [k, SK.dat (.list items)]) (pd_var 1 rfl) ⟨rfl, rfl⟩) (M2 := fun _ d G' => ∃ r k', d = .int r ∧ 0 ≤ r ∧ r < (items.length : Int) ∧ IsSt a l (m + 1) k' ∧ G' = [k, SK.dat (.list items)].set 0 k') (fun d1 G1 ⟨_, hG⟩ => by
      subst hG
      exact te_draw 0 c hgd hr rfl hsm (by omega) (pd_lenL T.len (pd_var 1 rfl)) (by omega) (by omega) nR) (fun d1 G1 d2 G2 ⟨e1, _⟩ ⟨r, k', e2, r0, r1, hk', e3⟩ => ?_)) fun d G' ⟨k', hk', hd, hG⟩ => fin_s hsm hk' hx ⟨items, rfl, hd⟩ hG)
  have hat := atI_of' r0 r1
  exact ⟨items, r, _, e1, e2, hat.1, k', hk', hat.2, by rw [e3]; rfl⟩
abbrev PaPrime : Nat → List PyData → Prop := fun n ds => n < 900000 ∧ ds = []
abbrev PdPrime : List PyData → PyData → Prop := fun _ d => ∃ p, p ∈ NLM.PR ∧ d = .int p
theorem sc_prime : FnScope ["_law_state"] ["_law_state"] (defScope sPrime) := ⟨rfl, rfl, rfl, by decide +kernel, rfl, by decide +kernel, by decide +kernel⟩
theorem ok_prime (c : CalG P w K mg base 2 "_law_draw" (SpM K C PreDraw PostDraw)) (F : FnP K "_law_prime" "_law_prime" sPrime [] f fd) (hm : mg "_law_prime" = some (.ref f)) : CalG P w K mg base 3 "_law_prime" (SpM K C (PreS PaPrime) (PostS 1 PdPrime)) := by
  refine cal_sm F hm sc_prime (fun _ _ _ _ _ _ us hl => match us, hl with | [_], _ => rfl) (fun ms ds ⟨_, _, _, _, _, h1, _, h2⟩ => by rw [h1, h2] <;> rfl) fun cdv A outer s H E ms ds hgd hr ⟨a, l, n, k, hs, h1, hn, h2⟩ => ?_
  subst h1 h2
  obtain ⟨m, hmn, hsm, hx⟩ := st_exact hs
  have nR : noRB ([k] ++ List.map SK.dat [] ++ List.replicate 0 .un) = true := by
    obtain ⟨_, _, _, rfl, _⟩ := hs
    rfl
  refine sm_last (sm_ret (te_ixL (M := fun d G' => ∃ k', IsSt a l (m + 1) k' ∧ (∃ p, p ∈ NLM.PR ∧ d = .int p) ∧ G'.take 1 = [k']) (te_p (M := fun d G' => d = .list (NLM.PR.map .int) ∧ G' = [k]) (pd_lst (ds_cons pd_int (ds_cons pd_int (ds_cons pd_int (ds_cons pd_int (ds_cons pd_int ds_nil))))) (by show 5 ≤ sizeLine; decide)) ⟨rfl, rfl⟩) (M2 := fun _ d G' => ∃ r k', d = .int r ∧ 0 ≤ r ∧ r < 5 ∧ IsSt a l (m + 1) k' ∧ G' = [k].set 0 k') (fun d1 G1 ⟨_, hG⟩ => by
      subst hG
      exact te_draw 0 c hgd hr rfl hsm (by omega) pd_int (by omega) (by omega) nR) (fun d1 G1 d2 G2 ⟨e1, _⟩ ⟨r, k', e2, r0, r1, hk', e3⟩ => ?_)) fun d G' ⟨k', hk', hd, hG⟩ => fin_s hsm hk' hx hd hG)
  have hat := atI_of' (items := NLM.PR.map PyData.int) r0 (by show r < 5; exact r1)
  obtain ⟨p, hp, he⟩ := List.mem_map.mp hat.2
  exact ⟨_, r, _, e1, e2, hat.1, k', hk', ⟨p, hp, he.symm⟩, by rw [e3]; rfl⟩
def LetOk (p : Int) (ns : List Int) : Prop := ∀ s ∈ ns, 0 ≤ s ∧ s < p
abbrev PaAlt : Nat → List PyData → Prop := fun n ds => n < 900000 ∧ ∃ p ns, p ∈ NLM.PR ∧ LetOk p ns ∧ ns.length ≤ 1000 ∧ ds = [.int p, dI ns]
abbrev PdAlt : List PyData → PyData → Prop := fun ds d => ∃ p ns ns', ds = [.int p, dI ns] ∧ d = dI ns' ∧ LetOk p ns' ∧ ns'.length = ns.length
theorem dI_inj {a b : List Int} (h : dI a = dI b) : a = b := by
  unfold dI at h
  injection h with h
  exact List.map_inj_right (fun x y e => by injection e) |>.mp h
theorem sc_alt : FnScope ["_law_state", "_law_prime_so", "_law_letter", "_law_at", "_law_other"] ["_law_state", "_law_prime_so", "_law_letter"] (defScope sAltered) := ⟨rfl, rfl, rfl, by decide +kernel, rfl, by decide +kernel, by decide +kernel⟩
theorem ok_alt (T : Free mg) (c : CalG P w K mg base 2 "_law_draw" (SpM K C PreDraw PostDraw)) (F : FnP K "_law_altered" "_law_altered" sAltered [] f fd) (hm : mg "_law_altered" = some (.ref f)) : CalG P w K mg base 3 "_law_altered" (SpM K C (PreS PaAlt) (PostS 2 PdAlt)) := by
  refine cal_sm F hm sc_alt (fun _ _ _ _ _ _ us hl => match us, hl with | [_, _, _], _ => rfl) (fun ms ds ⟨_, _, _, _, _, h1, _, _, _, _, _, _, h2⟩ => by rw [h1, h2] <;> rfl) fun cdv A outer s H E ms ds hgd hr ⟨a, l, n, k, hs, h1, hn, p, ns, hp, hlet, hl, h2⟩ => ?_
  subst h1 h2
  have hpb := NLM.pr_pos hp
  obtain ⟨m, hmn, hsm, hx⟩ := st_exact hs
  refine sm_cons (N1 := fun g => ns ≠ [] ∧ g = [k, .dat (.int p), .dat (dI ns), .un, .un]) (sm_ifP (k := decide (ns = [])) (pd_isT (pt_eq hr (d1 := dI ns) (d2 := dI []) (pd_var 2 rfl) (pd_tup ds_nil (Nat.zero_le _)) sh_ints.2 sh_ints.2) (by unfold dI; rw [eqv_tup_ints])) (fun h => ?_) fun h => sm_end ⟨of_decide_eq_false h, rfl⟩ (Weak.refl _)) ?_
  · exact sm_last (sm_ret (te_p (M := fun d G' => d = dI ns ∧ G'.take 1 = [k]) (pd_var 2 rfl) ⟨rfl, rfl⟩) fun d G' ⟨e, hG⟩ => fin_s hsm (hsm.mono (by omega)) hx ⟨p, ns, ns, rfl, e, hlet, rfl⟩ hG)
  · rintro G ⟨hne, rfl⟩
    have hlen : 1 ≤ ns.length := List.length_pos_iff.mpr hne
    have nR0 : noRB [k, .dat (.int p), .dat (dI ns), .un, .un] = true := by
      obtain ⟨_, _, _, rfl, _⟩ := hs
      rfl
    refine sm_cons (N1 := fun g => ∃ r k1, 0 ≤ r ∧ r < (ns.length : Int) ∧ IsSt a l (m + 1) k1 ∧ g = [k1, .dat (.int p), .dat (dI ns), .dat (.int r), .un]) (sm_set 3 sc_alt.nd (te_draw 0 c hgd hr rfl hsm (by omega) (pd_is (pd_lenT T.len (pd_var 2 rfl)) (by rw [map_len])) (by omega) (by omega) nR0) fun d G' ⟨r, k1, e, r0, r1, hk1, hG⟩ => ⟨r, k1, r0, r1, hk1, by rw [hG, e]; rfl⟩) ?_
    rintro G ⟨r, k1, r0, r1, hk1, rfl⟩
    have nR1 : noRB [k1, .dat (.int p), .dat (dI ns), .dat (.int r), .un] = true := by
      obtain ⟨_, _, _, rfl, _⟩ := hk1
      rfl
    have hat := atI_of (ns := ns) r0 r1
    have hatD : atI (ns.map PyData.int) r = some (.int (ns.getD r.toNat 0)) := by
      have e : r = ((r.toNat : Nat) : Int) := by omega
      rw [e]
      exact atI_ints (by omega)
    refine sm_cons (N1 := fun g => ∃ o k2, IsSt a l (m + 2) k2 ∧ g = [k2, .dat (.int p), .dat (dI ns), .dat (.int r), .dat (.int o)]) (sm_set 4 sc_alt.nd (te_op op_add (M1 := fun d G' => d = .int (ns.getD r.toNat 0 + 1) ∧ G' = [k1, .dat (.int p), .dat (dI ns), .dat (.int r), .un]) (te_p (pd_add (pd_ixT (pd_var 2 rfl) (pd_var 3 rfl) hatD) pd_int) ⟨rfl, rfl⟩) (M2 := fun _ d G' => ∃ q k2, d = .int q ∧ 0 ≤ q ∧ q < p - 1 ∧ IsSt a l (m + 1 + 1) k2 ∧ G' = [k1, .dat (.int p), .dat (dI ns), .dat (.int r), .un].set 0 k2) (M := fun d G' => ∃ o k2, d = .int o ∧ IsSt a l (m + 2) k2 ∧ G' = [k2, .dat (.int p), .dat (dI ns), .dat (.int r), .un]) (fun d1 G1 ⟨_, hG⟩ => by
        subst hG
        exact te_draw 0 c hgd hr rfl hk1 (by omega) (pd_sub (pd_var 1 rfl) pd_int) (by omega) (by omega) nR1) (fun d1 G1 d2 G2 ⟨e1, _⟩ ⟨q, k2, e2, q0, q1, hk2, e3⟩ => by
        subst e1 e2
        exact ⟨_, opd_int0, _, k2, rfl, hk2, e3⟩)) fun d G' ⟨o, k2, e, hk2, hG⟩ => ⟨o, k2, hk2, by rw [hG, e]; rfl⟩) ?_
    rintro G ⟨o, k2, hk2, rfl⟩
    have er : r = ((r.toNat : Nat) : Int) := by omega
    refine sm_last (sm_ret (te_p (M := fun d G' => d = dI (ns.take r.toNat ++ [o % p] ++ ns.drop (r.toNat + 1)) ∧ G'.take 1 = [k2]) (pd_is (pd_catT (ds := (ns.take r.toNat ++ [o % p]).map .int) (es := (ns.drop (r.toNat + 1)).map .int) (pd_is (pd_catT (ds := (ns.take r.toNat).map .int) (es := [.int (o % p)]) (pd_is (pd_slT (pd_var 2 rfl) do_none (do_some (pd_is (pd_var 3 rfl) (congrArg PyData.int er)))) (by rw [cutD_to, ← List.map_take])) (pd_tup (ds_cons (pd_mod (pd_intC T.int (pd_var 4 rfl)) (pd_var 1 rfl) (by omega)) ds_nil) (by show 1 ≤ sizeLine; decide)) (Nat.le_of_lt (lt_size (by rw [map_len, List.length_take]; show _ + 1 ≤ 1000; omega)))) (by rw [List.map_append]; rfl)) (pd_is (pd_slT (pd_var 2 rfl) (do_some (pd_is (pd_add (pd_var 3 rfl) pd_int) (congrArg PyData.int (show r + 1 = ((r.toNat + 1 : Nat) : Int) by omega)))) do_none) (by rw [cutD_from, ← List.map_drop])) (Nat.le_of_lt (lt_size (by rw [map_len, map_len, List.length_append, List.length_take, List.length_drop]; show _ + 1 + _ ≤ 1000; omega)))) (by unfold dI; rw [← List.map_append])) ⟨rfl, rfl⟩) fun d G' ⟨e, hG⟩ => fin_s hsm hk2 hx ⟨p, ns, _, rfl, e, ?_, ?_⟩ hG)
    · intro s hsm2
      rcases List.mem_append.mp hsm2 with h | h
      · rcases List.mem_append.mp h with h | h
        · exact hlet s (List.mem_of_mem_take h)
        · rw [List.mem_singleton.mp h]
          exact ⟨Int.emod_nonneg _ (by omega), Int.emod_lt_of_pos _ (by omega)⟩
      · exact hlet s (List.mem_of_mem_drop h)
    · rw [List.length_append, List.length_append, List.length_take, List.length_drop]
      show min _ _ + 1 + _ = _
      omega
end
end NL
set_option maxHeartbeats 2000000
/-! Rules: a list kept by while what changes is evaluated; shares, a message. -/
namespace NL
open PySem PySem.Spec PyProof.Rows L2 StX
section
variable {K : PySem.W.Frag} {C : Addr} {Z Hi H Hi' H' : Hp} {σ : L2.St} {G G' : List SK} {p : Addr} {o : HO}
theorem guard_in (z : Same Z H) (S : SlotsOk K C Z Hi H σ G) (hp : H p = some o) (hn : ∀ (j : Nat) (k : SK) (b : Addr), G[j]? = some k → Own (σ[j]?) k b → b ≠ p) : Same (upd Z p o) H ∧ SlotsOk K C (upd Z p o) Hi H σ G := by
  refine ⟨fun b u h => ?_, ⟨S.len, S.sub, fun j k h => slot_z (S.ok j k h) fun b hb q => by rw [upd_ne (hn j k b h hb)]; exact q, S.inj⟩⟩
  by_cases e : b = p
  · rw [e, upd_same] at h
    rw [e, hp]
    exact h
  · rw [upd_ne e] at h
    exact z b u h
theorem guard_out (zp : Z p = none) (hi : Hi p = none) (f : FrM (upd Z p o) Hi Hi' H') (S : SlotsOk K C (upd Z p o) Hi' H' σ G') : FrM Z Hi Hi' H' ∧ SlotsOk K C Z Hi' H' σ G' ∧ H' p = some o ∧ Hi' p = none ∧ ∀ (j : Nat) (k : SK) (b : Addr), G'[j]? = some k → Own (σ[j]?) k b → b ≠ p := by
  have z0 : ∀ b, upd Z p o b = none → Z b = none ∧ b ≠ p := fun b h => by
    by_cases e : b = p
    · rw [e, upd_same] at h
      cases h
    · rw [upd_ne e] at h
      exact ⟨h, e⟩
  refine ⟨⟨fun b u h => f.z b u (by rw [upd_ne (ne_of_none h zp)]; exact h), f.up, fun b u h => (f.new b u h).imp id fun q => (z0 b q).1⟩, ⟨S.len, S.sub, fun j k h => slot_z (S.ok j k h) fun b _ q => (z0 b q).1, S.inj⟩, f.z p o upd_same, ?_, fun j k b h hb => ?_⟩
  · cases e : Hi' p with
    | none => rfl
    | some u =>
      rcases f.new p u e with q | q
      · rw [hi] at q; cases q
      · rw [upd_same] at q; cases q
  · obtain ⟨_, _, _, q, _⟩ := mut_at (S.ok j k h) hb
    exact (z0 b q).2
/-- a list that stands becomes a slot's own -/
theorem SlotsOk.take (S : SlotsOk K C Z Hi H σ G) {vs : List V} {ds : List PyData} (hp : H p = some (.lst vs)) (hd : DpAll K Hi vs ds) (hi : Hi p = none) (hz : Z p = none) (hn : ∀ (j : Nat) (k : SK) (b : Addr), G[j]? = some k → Own (σ[j]?) k b → b ≠ p) (i : Nat) : SlotsOk K C Z Hi H (σ.set i (some (.ref p))) (G.set i (.mls ds)) := by
  have len : ∀ {j : Nat} {l : SK}, (G.set i (.mls ds))[j]? = some l → j < σ.length := fun {j l} e => by
    have := (List.getElem?_eq_some_iff.mp e).1
    rw [List.length_set] at this
    rw [S.len]; exact this
  refine ⟨by rw [List.length_set, List.length_set, S.len], S.sub, fun j l e => ?_, fun j1 j2 l1 l2 a e1 e2 q1 q2 => ?_⟩
  · rcases get_set e with ⟨z1, z2⟩ | ⟨hj, e'⟩
    · rw [z1, List.getElem?_set_self (z1 ▸ len e), z2]
      exact ⟨p, vs, rfl, hp, hd, hi, hz⟩
    · rw [List.getElem?_set_ne (Ne.symm hj)]
      exact S.ok j l e'
  · have isP : ∀ {b : Addr}, Own (some (some (.ref p))) (.mls ds) b → b = p := fun {b} z => by
      have : V.ref p = V.ref b := Option.some.inj (Option.some.inj z)
      injection this with this
      exact this.symm
    rcases get_set e1 with ⟨z1, r1⟩ | ⟨hj1, e1'⟩
    · rcases get_set e2 with ⟨z2, r2⟩ | ⟨hj2, e2'⟩
      · rw [z1, z2]
      · rw [z1, List.getElem?_set_self (z1 ▸ len e1), r1] at q1
        rw [List.getElem?_set_ne (Ne.symm hj2)] at q2
        exact absurd (isP q1) (hn j2 l2 a e2' q2)
    · rcases get_set e2 with ⟨z2, r2⟩ | ⟨hj2, e2'⟩
      · rw [z2, List.getElem?_set_self (z2 ▸ len e2), r2] at q2
        rw [List.getElem?_set_ne (Ne.symm hj1)] at q1
        exact absurd (isP q2) (hn j1 l1 a e1' q1)
      · rw [List.getElem?_set_ne (Ne.symm hj1)] at q1
        rw [List.getElem?_set_ne (Ne.symm hj2)] at q2
        exact S.inj j1 j2 l1 l2 a e1' e2' q1 q2
/-- slots wiped, set back -/
theorem slots_unwipe {vs : List Nat} (S : SlotsOk K C Z Hi H (L2.wipe σ vs) (wipeG G vs)) : SlotsOk K C Z Hi H σ (wipeG G vs) := by
  have un : ∀ (j : Nat) (k : SK), j ∈ vs → (wipeG G vs)[j]? = some k → k = .un := fun j => by
    clear S
    induction vs with
    | nil => exact fun k h => nomatch h
    | cons v r ih =>
      intro k h e
      unfold wipeG at e
      rcases get_set e with ⟨_, rfl⟩ | ⟨hj, e⟩
      · rfl
      · rcases List.mem_cons.mp h with h | h
        · exact absurd h hj
        · exact ih k h e
  have same : ∀ j, j ∉ vs → (L2.wipe σ vs)[j]? = σ[j]? := fun j h => wipe_out h
  refine ⟨by have := S.len; rw [wipe_length] at this; exact this, S.sub, fun j k h => ?_, fun i j k l a e1 e2 q1 q2 => ?_⟩
  · by_cases hj : j ∈ vs
    · rw [un j k hj h]
      trivial
    · have := S.ok j k h
      rw [same j hj] at this
      exact this
  · have hi : i ∉ vs := fun h => by
      rw [un i k h e1] at q1
      exact q1
    have hj : j ∉ vs := fun h => by
      rw [un j l h e2] at q2
      exact q2
    rw [← same i hi] at q1
    rw [← same j hj] at q2
    exact S.inj i j k l a e1 e2 q1 q2
end
theorem wipeG_out {G : List SK} {vs : List Nat} {j : Nat} (h : j ∉ vs) : (wipeG G vs)[j]? = G[j]? := by
  induction vs with
  | nil => rfl
  | cons v r ih =>
    unfold wipeG
    rw [List.getElem?_set_ne (fun e => h (by rw [e]; exact List.mem_cons_self))]
    exact ih fun z => h (List.mem_cons_of_mem _ z)
theorem wipeG_un {G : List SK} {vs : List Nat} {j : Nat} {k : SK} (h : j ∈ vs) (e : (wipeG G vs)[j]? = some k) : k = .un := by
  induction vs with
  | nil => cases h
  | cons v r ih =>
    unfold wipeG at e
    rcases get_set e with ⟨_, rfl⟩ | ⟨hj, e⟩
    · rfl
    · rcases List.mem_cons.mp h with h | h
      · exact absurd h hj
      · exact ih h e
theorem bind_get {pt : Pt} {d : PyData} {G G3 : List SK} {vs : List Nat} {j : Nat} {k : SK} (hv : pt.ins vs) (b : BindG pt d G G3) (h : G3[j]? = some k) : isMut k = false ∨ G[j]? = some k := by
  cases b with
  | nm =>
    rcases get_set h with ⟨_, rfl⟩ | ⟨_, h⟩
    · exact .inl rfl
    · exact .inr h
  | pr =>
    rcases get_set h with ⟨_, rfl⟩ | ⟨_, h⟩
    · exact .inl rfl
    · rcases get_set h with ⟨_, rfl⟩ | ⟨_, h⟩
      · exact .inl rfl
      · exact .inr h
section
variable {X : Cx} {C : Addr} {G : List SK} {a b e : Expr} {es : List Expr} {pos p2 : Pos} {d1 d2 : PyData} {M : PyData → List SK → Prop} {N : List SK → Prop} {R : PyData → List SK → Prop}
/-- a, b = [], e, e changing -/
theorem sm_parL (i j : Nat) {x y : Str} {px py pt pt2 q2 : Pos} {kt k2 : Nat} (hc : X.calm = true) (hN : X.N.Nodup) (hb : PE X b (tE X.K C G M)) (hn : ∀ d G', M d G' → N ((G'.set i (.mls [])).set j (.dat d))) (hij : i ≠ j := by decide) (hi : X.N[i]? = some x := by rfl) (hj : X.N[j]? = some y := by rfl)
    (hx : X.env.scope.names.lookup x = some .local := by rfl) (hy : X.env.scope.names.lookup y = some .local := by rfl) (he : starEach [.List [] q2, b] X.env = (false, eval (.List [] q2) X.env) :: starEach [b] X.env := by rfl) (he2 : starEach [b] X.env = (false, eval b X.env) :: starEach [] X.env := by rfl)
    (hw : swappedStores [.Tuple [.Name x px, .Name y py] kt pt] (.Tuple [.List [] q2, b] k2 pt2) X.env = pure (some [x, y]) := by rfl)
    (hs : swapsWithSole [.Tuple [.Name x px, .Name y py] kt pt] (.Tuple [.List [] q2, b] k2 pt2) pos.line X.env = pure false := by rfl) :
    PS X (.Assign [.Tuple [.Name x px, .Name y py] kt pt] (.Tuple [.List [] q2, b] k2 pt2) pos) (tM X.K C G N R) :=
  ps_to (ps_par hc hN hi hj hij hx hy (pa_cons (pe_lst pa_nil) (pa_cons hb pa_nil he2) he) hw hs) fun D σ H ⟨Z, Hi0, Hi, f, S, q1, q2⟩ => ⟨Nat.zero_le _, fun p hp => by
    have E0 : Ext Hi H Hi (upd H p (.lst [])) := Ext.grow S.sub (same_new hp)
    have S0 := S.ext E0
    have hno : ∀ (j : Nat) (k : SK) (b : Addr), G[j]? = some k → Own (σ[j]?) k b → b ≠ p := fun j k b hk hb => by
      obtain ⟨u, g1, _⟩ := mut_at (S.ok j k hk) hb
      exact ne_of_none g1 hp
    have zp := f.z.free hp
    have hip := S.sub.free hp
    obtain ⟨gz, gS⟩ := guard_in (f.z.trans (same_new hp)) S0 upd_same hno
    refine ⟨_, Hi, gz, gS, fun v Hi1 H1 d G1 m f1 S1 hv => ⟨_, _, rfl, ?_⟩⟩
    obtain ⟨f2, S2, g1, g2, g3⟩ := guard_out zp hip f1 S1
    exact q1 _ _ Hi1 H1 (hn d G1 m) f2.up (f.stepM f2) ((S2.take g1 .nil g2 zp g3 i).setD hv)⟩
/-- a list comprehension whose items change what is there -/
theorem te_lcM {α : Type} {own : List (Str × Nat)} {pt : Pt} {scope : Scope} {tg iter elt : Expr} (xs : List α) (enc : α → PyData) (Gi : Nat → List SK → Prop) (Pd : PyData → Prop) (hc : X.calm = true) (hN : X.N.Nodup) (hi : PI X tg iter (tDI X.K C G (xs.map enc))) (ok : BlkOk X.N X.env.scope scope own)
    (hg : ∀ (s : Shared) (H : Hp) (C' : Addr) (cl : List (Str × Addr)) (fp : List Addr), PG (X.blk s H scope (compEnvC scope cl C' X.env) fp) tg (gPt X.K pt)) (hz : xs.length < sizeLine) (hv : pt.ins (own.map (·.2))) (h0 : Gi 0 G)
    (hw : ∀ i G1, Gi i G1 → wipeG G1 (own.map (·.2)) = G1)
    (hb : ∀ i x G1, xs[i]? = some x → Gi i G1 → ∃ G2, BindG pt (enc x) G1 G2 ∧ ∀ (s : Shared) (H : Hp) (C' : Addr) (cl : List (Str × Addr)) (fp : List Addr), PE (X.blk s H scope (compEnvC scope cl C' X.env) fp) elt (tE X.K C G2 (fun d G3 => Pd d ∧ Gi (i + 1) (wipeG G3 (own.map (·.2))))))
    (hM : ∀ ds G', ds.length = xs.length → (∀ d ∈ ds, Pd d) → Gi xs.length G' → M (.list ds) G') (hs : ∀ x, foldedSetIterable iter X.env x = pure x := by intro _; rfl) : PE X (.ListComp elt [⟨tg, iter, [], 0⟩] scope pos) (tE X.K C G M) := by
  have hb2 : ∀ i x G1, xs[i]? = some x → Gi i G1 → ∀ G2, BindG pt (enc x) G1 G2 → ∀ (s : Shared) (H : Hp) (C' : Addr) (cl : List (Str × Addr)) (fp : List Addr), PE (X.blk s H scope (compEnvC scope cl C' X.env) fp) elt (tE X.K C G2 (fun d G3 => Pd d ∧ Gi (i + 1) (wipeG G3 (own.map (·.2))))) := fun i x G1 hx hg1 G2 hbG => by
    obtain ⟨G3, h1, h2⟩ := hb i x G1 hx hg1
    rw [BindG.det hbG h1]
    exact h2
  refine pe_to (pe_lc hc hN hi ok hg (fun s H C' cl fp => pts_nil) (fun s H C' cl fp => pe_or' (ι := Nat × α × List SK × List SK) (P := fun z => xs[z.1]? = some z.2.1 ∧ Gi z.1 z.2.2.1 ∧ BindG pt (enc z.2.1) z.2.2.1 z.2.2.2) (t := fun z => tE X.K C z.2.2.2 (fun d G3 => Pd d ∧ Gi (z.1 + 1) (wipeG G3 (own.map (·.2))))) fun z hz => hb2 z.1 z.2.1 z.2.2.1 hz.1 hz.2.1 z.2.2.2 hz.2.2 s H C' cl fp) hs) ?_
  rintro σ H Q ⟨Z, Hi, z, S, q⟩
  refine ⟨Z, Hi, S, fun J Hi1 H1 e1 w D hD => ?_⟩
  have S1 := S.ext e1
  have f1 := FrM.ext z e1
  let P : Nat → Hp → Prop := fun i H2 => ∃ Hi2 G2 acc ds, FrM Z Hi Hi2 H2 ∧ Same Hi1 Hi2 ∧ SlotsOk X.K C Z Hi2 H2 σ G2 ∧ Gi i G2 ∧ H2 D = some (.lst acc) ∧ Hi2 D = none ∧ DpAll X.K Hi2 acc ds ∧ ds.length = i ∧ (∀ d ∈ ds, Pd d) ∧ ∀ (j : Nat) (k : SK) (b : Addr), G2[j]? = some k → Own (σ[j]?) k b → b ≠ D
  have zD : Z D = none := f1.z.free hD
  have hiD : Hi1 D = none := S1.sub.free hD
  refine ⟨fun i m H2 => m = xs.length - i ∧ i ≤ xs.length ∧ P i H2, ⟨xs.length, by simp, Nat.zero_le _, Hi1, G, [], [], f1.trans (FrM.ext f1.z (Ext.grow S1.sub (same_new hD))), Same.refl _, S1.ext (Ext.grow S1.sub (same_new hD)), h0, upd_same, hiD, .nil, rfl, fun d h => (nomatch h), fun j k b hk hb => ?_⟩, ?_⟩
  · obtain ⟨u, g1, _⟩ := mut_at (S1.ok j k hk) hb
    exact ne_of_none g1 hD
  rintro i m H2 ⟨rfl, hle, Hi2, G2, acc, ds, f2, s2, S2, hGi, hacc, hDi, hda, hdl, hPd, hno⟩
  by_cases hlt : i < xs.length
  · obtain ⟨x, hx⟩ := at_some hlt
    refine .inr ⟨w.goes i H2 (by rw [List.length_map]; exact hlt) (s2.trans S2.sub), fun H3 => P (i + 1) H3, fun H3 p3 => ⟨xs.length - (i + 1), by omega, rfl, hlt, p3⟩, fun v H3 y => ?_⟩
    obtain ⟨Hi3, dx, y1, y2, y3⟩ := w.yields i H2 Hi2 v H3 (by rw [List.length_map]; exact hlt) s2 S2.sub y
    have hdx : dx = enc x := by
      rw [List.getElem?_map, hx] at y1
      exact (Option.some.inj y1).symm
    subst hdx
    have S3 := S2.ext y2
    have f3 := f2.trans (FrM.ext f2.z y2)
    obtain ⟨G3, b1, _⟩ := hb i x G2 hx hGi
    have b1' : BindG pt (enc x) (wipeG G2 (own.map (·.2))) G3 := by rw [hw i G2 hGi]; exact b1
    refine g_bindW S3 y3 hv b1' fun σ4 S4 hwp => ⟨hwp, ?_⟩
    dsimp only [tYes]
    rw [if_pos rfl]
    have hacc3 : H3 D = some (.lst acc) := y2.same _ _ hacc
    have hDi3 : Hi3 D = none := y2.fresh hacc hDi
    have hno4 : ∀ (j : Nat) (k : SK) (b : Addr), G3[j]? = some k → Own (σ4[j]?) k b → b ≠ D := fun j k b hk hb' => by
      -- outside own: as before; within: data
      intro ebD
      rcases bind_get hv b1' hk with hm | hk2
      · exact own_no hm hb'
      · have hown : j ∉ own.map (·.2) := fun hj => by
          rw [wipeG_un hj hk2] at hb'
          exact hb'
        have es : σ4[j]? = σ[j]? := by
          rw [← wipe_out (σ := σ4) hown, hwp, wipe_out hown]
        rw [hw i G2 hGi] at hk2
        rw [es] at hb'
        exact hno j k b hk2 hb' ebD
    obtain ⟨gz, gS⟩ := guard_in (f3.z) S4 hacc3 hno4
    have b2 : BindG pt (enc x) G2 G3 := b1
    refine ⟨(i, x, G2, G3), ⟨hx, hGi, b2⟩, _, Hi3, gz, gS, fun y' Hi6 H6 d6 G6 ⟨pd6, gi6⟩ f6 S6 h6 => ?_⟩
    obtain ⟨f7, S7, g1, g2, g3⟩ := guard_out zD hDi3 f6 S6
    refine ⟨acc, g1, by rw [dps_len hda, hdl]; omega, Hi6, wipeG G6 (own.map (·.2)), acc ++ [y'], ds ++ [d6], ?_, (s2.trans y2.up).trans f7.up, ?_, gi6, upd_same, g2, dps_app (dps_mono (y2.up.trans f7.up) _ _ hda) (.cons h6 .nil), by rw [List.length_append, hdl]; rfl, fun d hd => ?_, ?_⟩
    · have ft := f3.trans f7
      exact ⟨fun b u h => by rw [upd_ne (ne_of_none h zD)]; exact ft.z b u h, ft.up, ft.new⟩
    · have S8 : SlotsOk X.K C Z Hi6 H6 σ (wipeG G6 (own.map (·.2))) := by
        have := S7.wipe (own.map (·.2))
        rw [hwp] at this
        exact slots_unwipe this
      have hno8 : ∀ (j : Nat) (k : SK) (b : Addr), (wipeG G6 (own.map (·.2)))[j]? = some k → Own (σ[j]?) k b → b ≠ D := fun j k b hk hb' => by
        have hown : j ∉ own.map (·.2) := fun hj => by
          rw [wipeG_un hj hk] at hb'
          exact hb'
        have es : σ4[j]? = σ[j]? := by
          rw [← wipe_out (σ := σ4) hown, hwp, wipe_out hown]
        rw [← es] at hb'
        exact g3 j k b (by rw [wipeG_out hown] at hk; exact hk) hb'
      refine ⟨S8.len, fun c u h => ?_, fun j k h => ?_, S8.inj⟩
      · rw [upd_ne (fun e => by rw [e, g2] at h; cases h)]
        exact S8.sub c u h
      · have zz := S8.ok j k h
        cases hkk : k with
        | rcv p1 l1 r1 =>
          rw [hkk] at zz
          obtain ⟨u, k1, k2⟩ := zz
          obtain ⟨dx, fs, vl, vp, x1, x2⟩ := k2.ex
          exact ⟨u, k1, ⟨dx, fs, vl, vp, by rw [upd_ne (ne_of x1 g1 (fun z => nomatch z))]; exact x1, x2⟩⟩
        | _ =>
          rw [hkk] at zz h
          refine slot_keep zz (fun _ _ _ e => nomatch e) (Same.refl _) (fun b hb' u hu => ?_) fun b hb' => ?_
          · rw [upd_ne (hno8 j _ b h hb')]
            exact hu
          · obtain ⟨_, _, y, _⟩ := mut_at zz hb'
            exact y
    · rcases List.mem_append.mp hd with h | h
      · exact hPd d h
      · rw [List.mem_singleton.mp h]
        exact pd6
    · intro j k b hk hb'
      have hown : j ∉ own.map (·.2) := fun hj => by
        rw [wipeG_un hj hk] at hb'
        exact hb'
      have es : σ4[j]? = σ[j]? := by
        rw [← wipe_out (σ := σ4) hown, hwp, wipe_out hown]
      rw [← es] at hb'
      exact g3 j k b (by rw [wipeG_out hown] at hk; exact hk) hb'
  · have e : i = xs.length := by omega
    subst e
    refine .inl ⟨by have := w.stops H2 (s2.trans S2.sub); rw [List.length_map] at this; exact this, ?_⟩
    have hD2 : Same Hi2 (upd Hi2 D (.lst acc)) := same_new hDi
    have sub' : Same (upd Hi2 D (.lst acc)) H2 := fun c u h => by
      by_cases hcD : c = D
      · rw [hcD, upd_same] at h
        rw [hcD, hacc]
        exact h
      · rw [upd_ne hcD] at h
        exact S2.sub c u h
    refine q (.ref D) (upd Hi2 D (.lst acc)) H2 (.list ds) G2 (hM ds G2 hdl hPd hGi) ⟨f2.z, f2.up.trans hD2, fun c u h => ?_⟩ ⟨S2.len, sub', fun j k h => ?_, S2.inj⟩ (.lst (SqL.of upd_same) (dps_mono hD2 _ _ hda))
    · by_cases hcD : c = D
      · rw [hcD]
        exact .inr zD
      · rw [upd_ne hcD] at h
        exact f2.new c u h
    · have zz := S2.ok j k h
      cases hkk : k with
      | rcv p1 l1 r1 =>
        rw [hkk] at zz
        obtain ⟨u, k1, k2⟩ := zz
        obtain ⟨dx, fs, vl, vp, x1, x2, x3, x4, x5, x6, x7⟩ := k2.ex
        exact ⟨u, k1, ⟨dx, fs, vl, vp, x1, x2, x3, x4, x5, dp_mono hD2 _ _ x6, x7.mono hD2⟩⟩
      | _ =>
        rw [hkk] at zz h
        refine slot_keep zz (fun _ _ _ e => nomatch e) hD2 (fun b hb' u hu => hu) fun b hb' => ?_
        obtain ⟨_, _, y, _⟩ := mut_at zz hb'
        rw [upd_ne (hno j _ b h hb')]
        exact y
end
end NL
set_option maxHeartbeats 2000000
/-! The law's draws: shares, a message. -/
namespace NL
open PySem PySem.Spec PyProof.Rows L2 StX
section
variable {X : Cx} {C : Addr} {G : List SK} {a : Expr} {pos q : Pos} {M M1 : PyData → List SK → Prop}
theorem te_tupleL (hm : X.mg "tuple" = none) (ha : PE X a (tE X.K C G M1)) (hM : ∀ d G', M1 d G' → ∃ ds, d = .list ds ∧ M (.tuple ds) G') (hg : Gl X "tuple" := by rfl) (he : starEach [a] X.env = (false, eval a X.env) :: starEach [] X.env := by rfl) : PE X (.Call (.Name "tuple" q) [a] [] pos) (tE X.K C G M) :=
  pe_to (pe_callTy call_tuple_of hg hm (by decide +kernel) (ea_cons (MA := fun ds G' => ∃ d, ds = [d] ∧ M1 d G') (MB := fun d ds G' => ds = [] ∧ M1 d G') ha (fun d1 G1 m => ea_nil ⟨rfl, m⟩) (fun d1 G1 ds G2 _ ⟨e, m⟩ => ⟨d1, by rw [e], m⟩) he) (by decide) (by decide) he (by rfl))
    (te_cb fun ds G1 ⟨d, e, m⟩ => by
      subst e
      obtain ⟨xs, rfl, hm'⟩ := hM d G1 m
      exact ⟨.tuple xs, fun Hi H vs Q s h q => by
        cases h with
        | cons h1 h2 =>
          cases h2
          obtain ⟨p, ws, rfl, hs, ha⟩ := dp_lst h1
          exact ⟨p, ws, rfl, .inl ⟨s.seq hs, fun l hl => q _ _ _ (Ext.one s hl) (new_tup s ha hl)⟩⟩, hm'⟩)
end
section
variable {P : Program} {w : World} {K : PySem.W.Frag} {mg : Str → Option Value} {base : Heap} {C f : Addr} {fd : FuncData}
theorem nR_st {a l : Addr} {n : Nat} {k : SK} {r : List SK} (h : IsSt a l n k) (hr : noRB r = true) : noRB (k :: r) = true := by
  obtain ⟨_, _, _, rfl, _⟩ := h
  exact hr
abbrev PaShares : Nat → List PyData → Prop := fun n ds => n < 900000 ∧ ds = [.int 8]
abbrev PdShares : List PyData → PyData → Prop := fun _ d => ∃ lay, NLM.LayOk lay ∧ d = dI lay
theorem sc_shares : FnScope ["_law_state", "_law_most", "_law_got", "_law_left", "_law_k", "_law_share"] ["_law_state", "_law_most"] (defScope sShares) := ⟨rfl, rfl, rfl, by decide +kernel, rfl, by decide +kernel, by decide +kernel⟩
theorem ok_shares (T : Free mg) (c : CalG P w K mg base 2 "_law_draw" (SpM K C PreDraw PostDraw)) (F : FnP K "_law_shares" "_law_shares" sShares [] f fd) (hm : mg "_law_shares" = some (.ref f)) : CalG P w K mg base 3 "_law_shares" (SpM K C (PreS PaShares) (PostS 18 PdShares)) := by
  refine cal_sm F hm sc_shares (fun _ _ _ _ _ _ us hl => match us, hl with | [_, _], _ => rfl) (fun ms ds ⟨_, _, _, _, _, h1, _, h2⟩ => by rw [h1, h2] <;> rfl) fun cdv A outer s H E ms ds hgd hr ⟨a, l, n, k, hs, h1, hn, h2⟩ => ?_
  subst h1 h2
  obtain ⟨m, hmn, hsm, hx⟩ := st_exact hs
  refine sm_cons (N1 := fun g => ∃ k1 left, 0 ≤ left ∧ left ≤ 12 ∧ IsSt a l (m + 1) k1 ∧ g = [k1, .dat (.int 8), .mls [], .dat (.int left), .un, .un]) (sm_parL 2 3 rfl sc_shares.nd (te_ixL (M := fun d G' => ∃ k1 left, d = .int left ∧ 0 ≤ left ∧ left ≤ 12 ∧ IsSt a l (m + 1) k1 ∧ G' = [k1, .dat (.int 8), .un, .un, .un, .un]) (te_p (M := fun d G' => d = .list ([2, 5, 12].map .int) ∧ G' = [k, .dat (.int 8), .un, .un, .un, .un]) (pd_lst (ds_cons pd_int (ds_cons pd_int (ds_cons pd_int ds_nil))) (by show 3 ≤ sizeLine; decide)) ⟨rfl, rfl⟩)
    (M2 := fun _ d G' => ∃ r k', d = .int r ∧ 0 ≤ r ∧ r < 3 ∧ IsSt a l (m + 1) k' ∧ G' = [k, .dat (.int 8), .un, .un, .un, .un].set 0 k') (fun d1 G1 ⟨_, hG⟩ => by
      subst hG
      exact te_draw 0 c hgd hr rfl hsm (by omega) pd_int (by omega) (by omega) (nR_st hsm rfl)) (fun d1 G1 d2 G2 ⟨e1, _⟩ ⟨r, k', e2, r0, r1, hk', e3⟩ => ?_)) fun d G' ⟨k1, left, e, b0, b1, hk1, hG⟩ => ⟨k1, left, b0, b1, hk1, by rw [hG, e]; rfl⟩) ?_
  · have hat := atI_of' (items := [2, 5, 12].map PyData.int) r0 (by show r < 3; exact r1)
    obtain ⟨left, hleft, he⟩ := List.mem_map.mp hat.2
    refine ⟨_, r, _, e1, e2, hat.1, k', left, he.symm, ?_, ?_, hk', e3⟩
    · simp only [List.mem_cons, List.not_mem_nil, or_false] at hleft
      omega
    · simp only [List.mem_cons, List.not_mem_nil, or_false] at hleft
      omega
  rintro G ⟨k1, left0, l0, l1, hk1, rfl⟩
  refine sm_cons (N1 := fun g => ∃ (c : Nat) (k' : SK) (sh : List Int) (left : Int), c ≤ 8 ∧ 1 ≤ c ∧ sh.length = c ∧ (∀ s ∈ sh, 0 ≤ s ∧ s ≤ 6) ∧ sh.sum + left ≤ 12 ∧ 0 ≤ left ∧ IsSt a l (m + 2 + 2 * c) k' ∧ g = [k', .dat (.int 8), .mls (sh.map .int), .dat (.int left), .un, .un])
    (sm_for (MA := fun ds G' => ∃ c k', ds = rngD 0 c ∧ c ≤ 8 ∧ 1 ≤ c ∧ IsSt a l (m + 2) k' ∧ G' = [k', .dat (.int 8), .mls [], .dat (.int left0), .un, .un]) (fun ds i g => ∃ (c : Nat) (k' : SK) (sh : List Int) (left : Int), ds = rngD 0 c ∧ c ≤ 8 ∧ 1 ≤ c ∧ i ≤ c ∧ sh.length = i ∧ (∀ s ∈ sh, 0 ≤ s ∧ s ≤ 6) ∧ sh.sum + left ≤ 12 ∧ 0 ≤ left ∧ IsSt a l (m + 2 + 2 * i) k' ∧ g = [k', .dat (.int 8), .mls (sh.map .int), .dat (.int left), .un, .un]) rfl
      (ei_rng1 T.range (te_op op_add (M1 := fun d G' => d = .int 1 ∧ G' = [k1, .dat (.int 8), .mls [], .dat (.int left0), .un, .un]) (M := fun d G' => ∃ r k', d = .int (1 + r) ∧ 0 ≤ r ∧ r < 8 ∧ IsSt a l (m + 2) k' ∧ G' = [k', .dat (.int 8), .mls [], .dat (.int left0), .un, .un]) (M2 := fun _ d G' => ∃ r k', d = .int r ∧ 0 ≤ r ∧ r < 8 ∧ IsSt a l (m + 1 + 1) k' ∧ G' = [k1, .dat (.int 8), .mls [], .dat (.int left0), .un, .un].set 0 k') (te_p pd_int ⟨rfl, rfl⟩) (fun d1 G1 ⟨_, hG⟩ => by
          subst hG
          exact te_draw 0 c hgd hr rfl hk1 (by omega) (pd_var 1 rfl) (by omega) (by omega) (nR_st hk1 rfl)) (fun d1 G1 d2 G2 ⟨e1, _⟩ ⟨r, k', e2, r0, r1, hk', e3⟩ => by
          subst e1 e2
          exact ⟨_, opd_int0, r, k', rfl, r0, r1, hk', e3⟩)) fun d G' ⟨r, k', e, r0, r1, hk', hG⟩ => ⟨1 + r, e, by omega, by omega, (1 + r).toNat, k', rfl, by omega, by omega, hk', hG⟩)
      (pg_nm 4 sc_shares.nd) (fun ds G1 ⟨c, k', e, c8, c1, hk', hG⟩ => ⟨c, k', [], left0, e, c8, c1, Nat.zero_le _, rfl, fun s h => (nomatch h), by rw [List.sum_nil]; omega, l0, hk', hG⟩) ?_ fun ds G' ⟨c, k', sh, left, e, c8, c1, _, hl, hb, hsum, h0, hk', hG⟩ => by
        subst e
        rw [rngD_len] at hl hk'
        exact ⟨c, k', sh, left, c8, c1, hl, hb, hsum, h0, hk', hG⟩) ?_
  · rintro ds i d Gi hd ⟨c0, k2, sh, left, rfl, c8, c1, hic, hl, hb, hsum, h0, hk2, rfl⟩
    have hi : i < c0 := by
      have := (List.getElem?_eq_some_iff.mp hd).1
      rw [rngD_len] at this
      exact this
    refine ⟨_, .nm, ?_⟩
    refine sm_cons (N1 := fun g => ∃ s k4, 0 ≤ s ∧ s ≤ 6 ∧ s ≤ left ∧ IsSt a l (m + 2 + 2 * (i + 1)) k4 ∧ g = [k4, .dat (.int 8), .mls (sh.map .int), .dat (.int left), .dat d, .dat (.int s)]) (sm_set 5 sc_shares.nd (M := fun dd G' => ∃ s k4, dd = .int s ∧ 0 ≤ s ∧ s ≤ 6 ∧ s ≤ left ∧ IsSt a l (m + 2 + 2 * (i + 1)) k4 ∧ G' = [k4, .dat (.int 8), .mls (sh.map .int), .dat (.int left), .dat d, .un])
      (te_if (MT := fun b G1 => ∃ k3, IsSt a l (m + 2 + 2 * i + 1) k3 ∧ G1 = [k3, .dat (.int 8), .mls (sh.map .int), .dat (.int left), .dat d, .un]) (tt_cmp op_gt (M1 := fun dd G' => ∃ r k3, dd = .int r ∧ 0 ≤ r ∧ r < 3 ∧ IsSt a l (m + 2 + 2 * i + 1) k3 ∧ G' = [k2, .dat (.int 8), .mls (sh.map .int), .dat (.int left), .dat d, .un].set 0 k3) (M2 := fun _ dd G' => dd = .int 0 ∧ ∃ k3, IsSt a l (m + 2 + 2 * i + 1) k3 ∧ G' = [k3, .dat (.int 8), .mls (sh.map .int), .dat (.int left), .dat d, .un]) (te_draw 0 c hgd hr rfl hk2 (by omega) pd_int (by omega) (by omega) (nR_st hk2 rfl)) (fun d1 G1 ⟨r, k3, _, _, _, hk3, hG⟩ => by
          subst hG
          exact te_p pd_int ⟨rfl, k3, hk3, rfl⟩) (fun d1 G1 d2 G2 ⟨r, k3, e1, _⟩ ⟨e2, k3', hk3, hG⟩ => by
          subst e1 e2
          exact ⟨_, opd_bl0, k3', hk3, hG⟩)) (fun G1 ⟨k3, hk3, hG⟩ => ?_) (fun G1 ⟨k3, hk3, hG⟩ => ?_)) fun dd G' ⟨s, k4, e, b0, b1, b2, hk4, hG⟩ => ⟨s, k4, b0, b1, b2, hk4, by rw [hG, e]; rfl⟩) ?_
    · subst hG
      refine te_imp (te_draw 0 c hgd hr rfl hk3 (by omega) (pd_add pd_int (pd_min2 rfl T.min pd_int (pd_var 3 rfl))) (by split <;> omega) (by split <;> omega) (nR_st hk3 rfl)) fun dd G' ⟨s, k4, e, s0, s1, hk4, hG⟩ => ⟨s, k4, e, s0, ?_, ?_, hk4.mono (by omega), hG⟩
      · split at s1 <;> omega
      · split at s1 <;> omega
    · subst hG
      exact te_p pd_int ⟨0, k3, rfl, by omega, by omega, h0, hk3.mono (by omega), rfl⟩
    rintro G ⟨s, k4, s0, s6, sl, hk4, rfl⟩
    refine sm_pure (sd_app' 2 rfl (pd_var 5 rfl) (lt_size (by rw [map_len]; omega))) (sm_pure (sd_set 3 sc_shares.nd (pd_sub (pd_var 3 rfl) (pd_var 5 rfl))) (sm_end ⟨c0, k4, sh ++ [s], left - s, rfl, c8, c1, hi, by rw [List.length_append, hl]; rfl, fun x hx => ?_, ?_, by omega, hk4, ?_⟩ (.same (.same (.same (.same (.un (.un .nil))))))))
    · rcases List.mem_append.mp hx with h | h
      · exact hb x h
      · rw [List.mem_singleton.mp h]
        exact ⟨s0, s6⟩
    · rw [List.sum_append, List.sum_cons, List.sum_nil]
      omega
    · rw [List.map_append]
      rfl
  · rintro G ⟨c0, k2, sh, left, c8, c1, hl, hb, hsum, h0, hk2, rfl⟩
    refine sm_freeze 2 rfl (sm_last (sm_ret (te_p (M := fun d G' => d = dI sh ∧ G'.take 1 = [k2]) (pd_tupleL T.tuple (pd_var 2 rfl)) ⟨rfl, rfl⟩) fun d G' ⟨e, hG⟩ => fin_s hsm (hk2.mono (by omega)) hx ⟨sh, ⟨by omega, by omega, hb, by omega⟩, e⟩ hG))
abbrev PaMsg : Nat → List PyData → Prop := fun n ds => n < 900000 ∧ ∃ (p : Int) (many : Nat), p ∈ NLM.PR ∧ many ≤ 100 ∧ ds = [.int p, .int (many : Int)]
abbrev PdMsg : List PyData → PyData → Prop := fun ds d => ∃ (p : Int) (many : Nat) (msg : List Int), ds = [.int p, .int (many : Int)] ∧ d = dI msg ∧ msg.length = many ∧ LetOk p msg
theorem ints_of {p : Int} : ∀ {ds : List PyData}, (∀ d ∈ ds, ∃ i : Int, d = .int i ∧ 0 ≤ i ∧ i < p) → ∃ ns : List Int, ds = ns.map .int ∧ LetOk p ns
  | [], _ => ⟨[], rfl, fun s h => nomatch h⟩
  | d :: r, h => by
    obtain ⟨ns, e, hl⟩ := ints_of (ds := r) fun x hx => h x (List.mem_cons_of_mem _ hx)
    obtain ⟨i, ei, h0, h1⟩ := h d List.mem_cons_self
    refine ⟨i :: ns, by rw [e, ei]; rfl, fun s hs => ?_⟩
    rcases List.mem_cons.mp hs with z | z
    · rw [z]
      exact ⟨h0, h1⟩
    · exact hl s z
theorem sc_message : FnScope ["_law_state", "_law_prime_so", "_law_many", "_law_k"] ["_law_state", "_law_prime_so", "_law_many"] (defScope sMessage) := ⟨rfl, rfl, rfl, by decide +kernel, rfl, by decide +kernel, by decide +kernel⟩
theorem ok_message (T : Free mg) (c : CalG P w K mg base 2 "_law_draw" (SpM K C PreDraw PostDraw)) (F : FnP K "_law_message" "_law_message" sMessage [] f fd) (hm : mg "_law_message" = some (.ref f)) : CalG P w K mg base 3 "_law_message" (SpM K C (PreS PaMsg) (PostS 100 PdMsg)) := by
  refine cal_sm F hm sc_message (fun _ _ _ _ _ _ us hl => match us, hl with | [_, _, _], _ => rfl) (fun ms ds ⟨_, _, _, _, _, h1, _, _, _, _, _, h2⟩ => by rw [h1, h2] <;> rfl) fun cdv A outer s H E ms ds hgd hr ⟨a, l, n, k, hs, h1, hn, p, many, hp, hmany, h2⟩ => ?_
  subst h1 h2
  have hpb := NLM.pr_pos hp
  obtain ⟨m, hmn, hsm, hx⟩ := st_exact hs
  refine sm_last (sm_ret (te_tupleL (M := fun d G' => ∃ k' msg, IsSt a l (m + 100) k' ∧ d = dI msg ∧ msg.length = many ∧ LetOk p msg ∧ G'.take 1 = [k']) (M1 := fun d G' => ∃ k' ds, d = .list ds ∧ ds.length = many ∧ (∀ d ∈ ds, ∃ i : Int, d = .int i ∧ 0 ≤ i ∧ i < p) ∧ IsSt a l (m + 100) k' ∧ G'.take 1 = [k']) T.tuple
    (te_lcM (own := [("_law_k", 3)]) (pt := .nm 3) ((List.range many).map fun (i : Nat) => (0 : Int) + (i : Int)) .int (fun i G1 => ∃ k', IsSt a l (m + i) k' ∧ G1 = [k', .dat (.int p), .dat (.int (many : Int)), .un]) (fun d => ∃ i : Int, d = .int i ∧ 0 ≤ i ∧ i < p) rfl sc_message.nd (di_is (di_rng1 T.range (pd_var 2 rfl) (by omega)) (by rw [rngD_map]; rfl)) (blkOk_by rfl) (fun _ _ _ _ _ => pg_nm 3 sc_message.nd) (lt_size (by rw [List.length_map, List.length_range]; omega)) ins1 ⟨k, hsm, rfl⟩ (fun i G1 ⟨k', _, hG⟩ => by rw [hG]; rfl)
      (fun i x G1 hx' ⟨k', hk', hG⟩ => ?_) fun ds G' hl hP ⟨k', hk', hG⟩ => ?_) fun d G' ⟨k', ds, e, hl, hP, hk', hG⟩ => ?_) fun d G' ⟨k', msg, hk', e, hl, hlet, hG⟩ => fin_s hsm hk' hx ⟨p, many, msg, rfl, e, hl, hlet⟩ hG)
  · subst hG
    have hi : i < many := by
      have := (List.getElem?_eq_some_iff.mp hx').1
      rw [List.length_map, List.length_range] at this
      exact this
    refine ⟨_, .nm, fun s H C' cl fp => ?_⟩
    refine te_imp (te_draw 0 c hgd hr rfl hk' (by omega) (pd_var 1 rfl) (by omega) (by omega) (nR_st hk' rfl)) fun d G' ⟨r, k2, e, r0, r1, hk2, hG⟩ => ⟨⟨r, e, r0, r1⟩, k2, hk2, ?_⟩
    rw [hG]
    rfl
  · rw [List.length_map, List.length_range] at hl hk'
    exact ⟨k', ds, rfl, hl, hP, hk'.mono (by omega), by rw [hG]; rfl⟩
  · obtain ⟨ns, ens, hlet⟩ := ints_of hP
    exact ⟨ds, e, k', ns, hk', by rw [ens]; rfl, by rw [← hl, ens, List.length_map], hlet, hG⟩
end
end NL
set_option maxHeartbeats 2000000
/-! The law: what stands right. -/
namespace NL
open PySem PySem.Spec PyProof.Rows L2 StX
theorem sumLe_mono {j k : Int} (h : j ≤ k) : ∀ {ns : List Int}, (∀ x ∈ ns, 0 ≤ x) → NLM.sumLe j ns ≤ NLM.sumLe k ns := fun {ns} => by
  unfold NLM.sumLe
  induction ns with
  | nil => exact fun _ => Int.le_refl _
  | cons x r ih =>
    intro hx
    have ih' := ih fun y hy => hx y (List.mem_cons_of_mem _ hy)
    have h0 := hx x List.mem_cons_self
    by_cases h1 : x ≤ j
    · rw [List.filter_cons_of_pos (p := fun k => decide (k ≤ j)) (decide_eq_true h1), List.filter_cons_of_pos (p := fun y => decide (y ≤ k)) (decide_eq_true (by omega)), List.sum_cons, List.sum_cons]
      omega
    · rw [List.filter_cons_of_neg (p := fun k => decide (k ≤ j)) (by rw [decide_eq_false h1]; exact Bool.false_ne_true)]
      by_cases h2 : x ≤ k
      · rw [List.filter_cons_of_pos (p := fun y => decide (y ≤ k)) (decide_eq_true h2), List.sum_cons]
        omega
      · rw [List.filter_cons_of_neg (p := fun y => decide (y ≤ k)) (by rw [decide_eq_false h2]; exact Bool.false_ne_true)]
        exact ih'
theorem sumLe_range {lay : List Int} (hl : NLM.LayOk lay) (j : Int) : 0 ≤ NLM.sumLe j (NLM.needsIn lay) ∧ NLM.sumLe j (NLM.needsIn lay) ≤ 96 := by
  have h12 := NLM.needs_len12 hl
  have h8 := hl.l8
  have bound : ∀ (l : List Int), (∀ x ∈ l, 0 ≤ x ∧ x ≤ 8) → 0 ≤ l.sum ∧ l.sum ≤ 8 * l.length := fun l => by
    induction l with
    | nil => exact fun _ => by rw [List.sum_nil]; exact ⟨Int.le_refl _, Int.le_refl _⟩
    | cons x l ih =>
      intro h
      have h1 := h x List.mem_cons_self
      have h2 := ih fun y hy => h y (List.mem_cons_of_mem _ hy)
      rw [List.sum_cons, List.length_cons]
      omega
  have b := bound ((NLM.needsIn lay).filter fun k => decide (k ≤ j)) fun x hx => by
    have := NLM.needsIn_range x (List.mem_filter.mp hx).1
    omega
  have fl := List.length_filter_le (fun k => decide (k ≤ j)) (NLM.needsIn lay)
  unfold NLM.sumLe
  omega
theorem Rk_sum {lay : List Int} (hl : NLM.LayOk lay) {j : Nat} (h : j ≤ lay.length) : (0 :: NLM.stairIn lay)[j]? = some (Rk lay j) ∧ Rk lay j = NLM.sumLe j (NLM.needsIn lay) := by
  have e := NLM.stairIn_at (fun s hs => (hl.sh s hs).1) h
  unfold Rk
  rw [List.getD_eq_getElem?_getD, e]
  exact ⟨rfl, rfl⟩
theorem Rk_range {lay : List Int} (hl : NLM.LayOk lay) {j : Nat} (h : j ≤ lay.length) : 0 ≤ Rk lay j ∧ Rk lay j ≤ 96 := by
  rw [(Rk_sum hl h).2]
  exact sumLe_range hl _
theorem Mk2_range {lay : List Int} (hl : NLM.LayOk lay) {j : Nat} : 0 ≤ Mk2 lay j ∧ Mk2 lay j ≤ 96 := by
  unfold Mk2
  by_cases h : j < lay.length
  · rw [if_pos h]
    have h1 := Rk_range hl (show j + 1 ≤ lay.length from h)
    have h2 := Rk_range hl (Nat.le_of_lt h)
    have h3 : Rk lay j ≤ Rk lay (j + 1) := by
      rw [(Rk_sum hl (Nat.le_of_lt h)).2, (Rk_sum hl (show j + 1 ≤ lay.length from h)).2]
      exact sumLe_mono (by omega) NLM.needs_pos
    omega
  · rw [if_neg h]
    omega
theorem Rk_read {p : Int} {lay : List Int} {mail : NLM.Mail} (hl : NLM.LayOk lay) (hM : NLM.MailOk p lay mail) : Rk lay mail.length = ((NLM.readIn p lay mail).length : Int) := by
  have e := NLM.read_len hl hM
  rw [(Rk_sum hl hM.short).1] at e
  exact Option.some.inj e
theorem at_Rk {lay : List Int} (hl : NLM.LayOk lay) {j : Nat} (h : j ≤ lay.length) : atI ((0 :: NLM.stairIn lay).map PyData.int) (j : Int) = some (.int (Rk lay j)) :=
  atI_nat (by rw [List.getElem?_map, (Rk_sum hl h).1]; rfl)
/-! ### tidy -/
theorem td_int {n : Nat} {i : Int} (h0 : 0 ≤ i) (h1 : i < 200) : Tidy n (.int i) := .int i h0 h1
theorem td_ints {ns : List Int} {n : Nat} (h : ∀ i ∈ ns, 0 ≤ i ∧ i < 200) : Tidy (n + 1) (dI ns) := (Tidy.ints h).1
theorem wt_ints {ns : List Int} {m : Nat} (h : ∀ i ∈ ns, 0 ≤ i ∧ i < 200) (hl : ns.length ≤ m) : (dI ns).weight ≤ m * 11 :=
  (wt_seq (k := 10) (fun d hd => by
    obtain ⟨i, hi, rfl⟩ := List.mem_map.mp hd
    exact wt_int (n := 0) (.int i (h i hi).1 (h i hi).2)) (by rw [List.length_map]; exact hl)).2
theorem td_mail {p : Int} {lay : List Int} {mail : NLM.Mail} (hl : NLM.LayOk lay) (hM : NLM.MailOk p lay mail) : Tidy 3 (dM mail) ∧ (dM mail).weight ≤ 8 * 267 := by
  have hp := NLM.pr_pos hM.pr
  have h8 := hl.l8
  have h12 := NLM.needs_len12 hl
  have key : ∀ d ∈ mail.map encM, Tidy 2 d ∧ d.weight ≤ 266 := fun d hd => by
    obtain ⟨m, hm, rfl⟩ := List.mem_map.mp hd
    have hlo := hM.lo m hm
    have hrg : ∀ i ∈ m.2, 0 ≤ i ∧ i < 200 := fun i hi => by
      have := hM.rg m hm i hi
      omega
    have t1 : Tidy 1 (.int m.1) := td_int hlo.1 (by omega)
    have w2 := wt_ints (m := 12) hrg (by rw [hM.len m hm]; exact h12)
    refine ⟨.tup fun d hd => ?_, (wt_seq (k := 132) (m := 2) (fun d hd => ?_) (Nat.le_refl _)).2⟩
    · rcases List.mem_cons.mp hd with rfl | hd
      · exact t1
      · rw [List.mem_singleton.mp hd]
        exact td_ints hrg
    · rcases List.mem_cons.mp hd with rfl | hd
      · have := wt_int t1
        omega
      · rw [List.mem_singleton.mp hd]
        exact w2
  exact ⟨.tup fun d hd => (key d hd).1, (wt_seq (k := 266) (fun d hd => (key d hd).2) (by rw [List.length_map]; have := hM.short; omega)).2⟩
def toldD (p : Int) (lay : List Int) (mail : NLM.Mail) : PyData := .list [.int p, dI lay, dM mail, .int (Rk lay mail.length), .int (Mk2 lay mail.length)]
theorem lay_small {lay : List Int} (hl : NLM.LayOk lay) : ∀ i ∈ lay, 0 ≤ i ∧ i < 200 := fun i hi => by
  have := hl.sh i hi
  omega
theorem td_told {p : Int} {lay : List Int} {mail : NLM.Mail} (hl : NLM.LayOk lay) (hM : NLM.MailOk p lay mail) : Tidy 4 (toldD p lay mail) ∧ (toldD p lay mail).weight ≤ 2 ^ 20 := by
  have hp := NLM.pr_pos hM.pr
  have h1 := Rk_range hl hM.short
  have h2 := Mk2_range hl (j := mail.length)
  obtain ⟨tm, wm⟩ := td_mail hl hM
  have wl := wt_ints (m := 8) (lay_small hl) hl.l8
  have t1 : Tidy 3 (.int p) := td_int (by omega) (by omega)
  have t2 : Tidy 3 (.int (Rk lay mail.length)) := td_int (by omega) (by omega)
  have t3 : Tidy 3 (.int (Mk2 lay mail.length)) := td_int (by omega) (by omega)
  have w1 := wt_int t1
  have w2 := wt_int t2
  have w3 := wt_int t3
  refine ⟨.lst fun d hd => ?_, Nat.le_trans (wt_seq (k := 8 * 267) (m := 5) (fun d hd => ?_) (Nat.le_refl _)).1 (by decide)⟩
  · simp only [List.mem_cons, List.not_mem_nil, or_false] at hd
    rcases hd with rfl | rfl | rfl | rfl | rfl
    · exact t1
    · exact td_ints (lay_small hl)
    · exact tm
    · exact t2
    · exact t3
  · simp only [List.mem_cons, List.not_mem_nil, or_false] at hd
    rcases hd with rfl | rfl | rfl | rfl | rfl <;> omega
theorem susp_small {p : Int} {lay : List Int} {mail : NLM.Mail} (hl : NLM.LayOk lay) (hM : NLM.MailOk p lay mail) : (∀ i ∈ NLM.suspectsIn p lay mail, 0 ≤ i ∧ i < 200) ∧ (NLM.suspectsIn p lay mail).length ≤ 8 := by
  have h8 := hl.l8
  have hsh := hM.short
  unfold NLM.suspectsIn
  split
  · exact ⟨fun i hi => (nomatch hi), Nat.zero_le _⟩
  · refine ⟨fun i hi => ?_, ?_⟩
    · obtain ⟨m, hm, rfl⟩ := List.mem_map.mp hi
      have := hM.lo m (List.mem_filter.mp hm).1
      omega
    · rw [List.length_map]
      have := List.length_filter_le (fun m => decide (NLM.unfitIn p lay (NLM.without mail m.1) = [])) mail
      omega
theorem td_due {p : Int} {lay : List Int} {mail : NLM.Mail} (hl : NLM.LayOk lay) (hM : NLM.MailOk p lay mail) : Tidy 2 (.list [dI (NLM.suspectsIn p lay mail), dI (NLM.suspectsIn p lay mail)]) ∧ (PyData.list [dI (NLM.suspectsIn p lay mail), dI (NLM.suspectsIn p lay mail)]).weight ≤ 2 ^ 20 := by
  obtain ⟨h1, h2⟩ := susp_small hl hM
  have w := wt_ints (m := 8) h1 h2
  refine ⟨.lst fun d hd => ?_, Nat.le_trans (wt_seq (k := 8 * 11) (m := 2) (fun d hd => ?_) (Nat.le_refl _)).1 (by decide)⟩
  · simp only [List.mem_cons, List.not_mem_nil, or_false] at hd
    rcases hd with rfl | rfl <;> exact td_ints h1
  · simp only [List.mem_cons, List.not_mem_nil, or_false] at hd
    rcases hd with rfl | rfl <;> exact w
theorem td_heard {p : Int} {lay : List Int} {mail : NLM.Mail} (hl : NLM.LayOk lay) (hM : NLM.MailOk p lay mail) : Tidy 2 (heardD p lay mail) ∧ (heardD p lay mail).weight ≤ 2 ^ 20 ∧ repKind (heardD p lay mail) = true := by
  have hp := NLM.pr_pos hM.pr
  have h8 := hl.l8
  unfold heardD
  cases hu : NLM.unfitIn p lay mail with
  | nil =>
    have hs : ∀ i ∈ NLM.readIn p lay mail, 0 ≤ i ∧ i < 200 := fun i hi => by
      have := NLM.read_range hM i hi
      omega
    have w := wt_ints (m := 96) hs (read_le hl hM)
    refine ⟨.lst fun d hd => ?_, Nat.le_trans (wt_seq (k := 96 * 11) (m := 1) (fun d hd => ?_) (Nat.le_refl _)).1 (by decide), rfl⟩
    · rw [List.mem_singleton.mp hd]
      exact td_ints hs
    · rw [List.mem_singleton.mp hd]
      exact w
  | cons n rest =>
    have hn : n ∈ NLM.unfitIn p lay mail := by rw [hu]; exact List.mem_cons_self
    have hr : 1 ≤ n ∧ n ≤ lay.length := by
      rcases (NLM.unfit_mem n _ 0 []).mp hn with m | ⟨i, h1, _⟩
      · cases m
      · exact NLM.needsIn_range n (List.mem_of_getElem? h1)
    have t : Tidy 2 (.int n) := td_int (by omega) (by omega)
    exact ⟨t, Nat.le_trans (wt_int t) (by decide), rfl⟩
section
variable {X : Cx} {C : Addr} {G : List SK} {a b : Expr} {pos : Pos}
theorem opd_neS {K : PySem.W.Frag} {x y : Str} : OpD K rNe (.str x) (.str y) (.bool (!decide (x = y))) := fun Hi H u v Q s h1 h2 q => by
  obtain rfl := dp_str h1
  obtain rfl := dp_str h2
  refine ⟨rfl, ?_⟩
  rw [show decide (V.str x = V.str y) = decide (x = y) from by
    by_cases e : x = y
    · rw [decide_eq_true e, decide_eq_true (by rw [e])]
    · rw [decide_eq_false e, decide_eq_false (fun z => e (by injection z))]]
  exact q _ Hi H (Ext.refl s) (.bl _)
theorem opd_eqS {K : PySem.W.Frag} {x y : Str} : OpD K rEq (.str x) (.str y) (.bool (decide (x = y))) := fun Hi H u v Q s h1 h2 q => by
  obtain rfl := dp_str h1
  obtain rfl := dp_str h2
  refine ⟨rfl, ?_⟩
  rw [show decide (V.str x = V.str y) = decide (x = y) from by
    by_cases e : x = y
    · rw [decide_eq_true e, decide_eq_true (by rw [e])]
    · rw [decide_eq_false e, decide_eq_false (fun z => e (by injection z))]]
  exact q _ Hi H (Ext.refl s) (.bl _)
theorem pt_neSame {x : Str} (ha : PE X a (tD X.K C G (.str x))) (hb : PE X b (tD X.K C G (.str x))) : PT X (.Compare a [.NotEq] [b] pos) (tDT X.K C G false) := pd_isT (pt_cmpD op_ne ha hb opd_neS) (by rw [decide_eq_true rfl]; rfl)
theorem pd_reprT {n m : Nat} {d : PyData} {q : Pos} (hr : Room n X.A) (hgd : X.A.guards = some []) (hm : X.mg "repr" = none) (ha : PE X a (tD X.K C G d)) (hk : repKind d = true) (t : Tidy m d) (hw : d.weight ≤ 2 ^ 20) (hmn : m ≤ 50 := by decide) (hg : Gl X "repr" := by rfl)
    (he : starEach [a] X.env = (false, eval a X.env) :: starEach [] X.env := by rfl) : PE X (.Call (.Name "repr" q) [a] [] pos) (tD X.K C G (.str d.shown)) :=
  let ⟨h1, h2, h3, h4⟩ := t.len hmn hw
  pd_repr hr hgd hm ha hk h2 h3 h4 h1 hg he
end
end NL
set_option maxHeartbeats 2000000
/-! The law: what stands right. -/
namespace NL
open PySem PySem.Spec PyProof.Rows L2 StX
theorem isNone_dI (ns : List Int) : isNone (dI ns) = false := rfl
/-- the defs and methods that stands_right calls -/
structure Said (P : Program) (w : World) (K : PySem.W.Frag) (mg : Str → Option Value) (base : Heap) (C : Addr) : Prop where
  free : Free mg
  cls : Rcls K C
  prime : PropD P w K mg base C "prime" "own_prime"
  laying : PropD P w K mg base C "laying" "own_laying"
  mail : MetD P w K mg base C 1 "mail" R_mail
  known : MetD P w K mg base C 3 "known" R_known
  more : MetD P w K mg base C 3 "more" R_more
  susp : MetD P w K mg base C 7 "suspects" R_suspectsM
  heard : CalD P w K mg base C 7 "_law_heard" R_heard
  stair : CalD P w K mg base C 1 "_law_stair" R_stair
  needs : CalD P w K mg base C 1 "_law_needs" R_needs
  unfit : CalD P w K mg base C 3 "_law_unfit" R_unfit
  suspects : CalD P w K mg base C 4 "_law_suspects" R_suspects
  right : CalD P w K mg base C 2 "_law_read_right" R_read_right
section
variable {P : Program} {w : World} {K : PySem.W.Frag} {mg : Str → Option Value} {base : Heap} {C f : Addr} {fd : FuncData}
def R_stands (ks : List SK) (d : PyData) : Prop := ∃ k p lay mail m, Live k p lay mail ∧ (m = .none ∨ ∃ msg, m = dI msg ∧ NLM.unfitIn p lay mail = [] ∧ NLM.readIn p lay mail = msg.take (NLM.readIn p lay mail).length) ∧ ks = [k, .dat (.int p), .dat (dI lay), .dat (dML mail), .dat m] ∧ d = .bool true
theorem sc_stands : FnScope ["_law_live", "_law_prime_so", "_law_shares_here", "_law_came", "_law_message_so", "_law_stair_here", "_law_many", "_law_more_so", "_law_told_so", "_law_due", "_law_unfit_here", "_law_heard_here"] ["_law_live", "_law_prime_so", "_law_shares_here", "_law_came", "_law_message_so"] (defScope sStandsRight) := ⟨rfl, rfl, rfl, by decide +kernel, rfl, by decide +kernel, by decide +kernel⟩
theorem ok_stands (T : Said P w K mg base C) (F : FnP K "_law_stands_right" "_law_stands_right" sStandsRight [] f fd) (hm : mg "_law_stands_right" = some (.ref f)) : CalG P w K mg base 8 "_law_stands_right" (SpD K C R_stands) := by
  refine cal_sg F hm sc_stands (fun _ _ _ _ _ _ us hl => match us, hl with | [_, _, _, _, _], _ => rfl) (fun ks d ⟨_, _, _, _, _, _, _, h, _⟩ => by rw [h] <;> rfl) fun cdv A outer s H E ks d hgd hr ⟨k, p, lay, mail, m, L, hmsg, hks, hd⟩ => ?_
  obtain ⟨hl, hM, init, st, hk⟩ := id L
  subst hks hd hk
  have h8 := hl.l8
  have hsh := hM.short
  have t1 := td_told hl hM
  have t2 := td_due hl hM
  have t3 := td_heard hl hM
  refine sd_seq (sd_par' 5 6 rfl sc_stands.nd (d1 := dI (0 :: NLM.stairIn lay)) (d2 := .int (mail.length : Int)) (pd_is (pd_catT (es := (NLM.stairIn lay).map .int) (pd_tup (ds_cons pd_int ds_nil) (by show 1 ≤ sizeLine; decide)) (pd_call T.stair hr (da_cons (pd_var 2 rfl) da_nil) ⟨lay, hl, rfl, rfl⟩) (Nat.le_of_lt (lt_size (by rw [map_len]; have := stairIn_len hl; show 1 + _ ≤ 1000; omega)))) stairD) (pd_is (pd_lenL T.free.len (pd_var 3 rfl)) (by rw [map_len]))) ?_
  refine sd_seq (sd_set 7 sc_stands.nd (d := .int (Mk2 lay mail.length)) (pd_if (k1 := decide ((mail.length : Int) < (lay.length : Int))) (pd_isT (pt_lt (pd_var 6 rfl) (pd_lenT T.free.len (pd_var 2 rfl))) (by rw [map_len])) (fun h => ?_) (fun h => ?_))) ?_
  · have h' : mail.length < lay.length := by
      have := of_decide_eq_true h
      omega
    refine pd_is (pd_sub (pd_ixT (pd_var 5 rfl) (pd_add (pd_var 6 rfl) pd_int) (at_Rk hl (j := mail.length + 1) h')) (pd_ixT (pd_var 5 rfl) (pd_var 6 rfl) (at_Rk hl hM.short))) ?_
    unfold Mk2
    rw [if_pos h']
  · have h' : ¬ mail.length < lay.length := by
      have := of_decide_eq_false h
      omega
    unfold Mk2
    rw [if_neg h']
    exact pd_int
  refine sd_seq (sd_set 8 sc_stands.nd (d := toldD p lay mail) (pd_lst (ds_cons (pd_propP 0 T.cls T.prime hr .r) (ds_cons (pd_propL 0 T.cls T.laying hr .r) (ds_cons (pd_meth0 0 T.cls T.mail hr .r ⟨_, p, lay, mail, L, rfl, rfl⟩) (ds_cons (pd_meth0 0 T.cls T.known hr .r ⟨_, p, lay, mail, L, rfl, rfl⟩) (ds_cons (pd_meth0 0 T.cls T.more hr .r ⟨_, p, lay, mail, L, rfl, rfl⟩) ds_nil))))) (by show 5 ≤ sizeLine; decide))) ?_
  refine sd_seq (sd_no (pt_neSame (pd_reprT hr hgd T.free.repr (pd_var 8 rfl) rfl t1.1 t1.2) (pd_reprT (d := toldD p lay mail) hr hgd T.free.repr (pd_lst (ds_cons (pd_var 1 rfl) (ds_cons (pd_var 2 rfl) (ds_cons (pd_tupleL T.free.tuple (pd_var 3 rfl)) (ds_cons (pd_ixT (pd_var 5 rfl) (pd_var 6 rfl) (at_Rk hl hM.short)) (ds_cons (pd_var 7 rfl) ds_nil))))) (by show 5 ≤ sizeLine; decide)) rfl t1.1 t1.2))) ?_
  refine sd_seq (sd_set 9 sc_stands.nd (d := dI (NLM.suspectsIn p lay mail)) (pd_call T.suspects hr (da_cons (pd_var 1 rfl) (da_cons (pd_var 2 rfl) (da_cons (pd_var 3 rfl) da_nil))) ⟨p, lay, mail, hl, hM, rfl, rfl⟩)) ?_
  refine sd_seq (sd_no (pd_isT (pt_or (pt_neSame (pd_reprT hr hgd T.free.repr (pd_lst (ds_cons (pd_meth0 0 T.cls T.susp hr .r ⟨_, p, lay, mail, L, rfl, rfl⟩) (ds_cons (pd_meth0 0 T.cls T.susp hr .r ⟨_, p, lay, mail, L, rfl, rfl⟩) ds_nil)) (by show 2 ≤ sizeLine; decide)) rfl t2.1 t2.2) (pd_reprT hr hgd T.free.repr (pd_lst (ds_cons (pd_var 9 rfl) (ds_cons (pd_var 9 rfl) ds_nil)) (by show 2 ≤ sizeLine; decide)) rfl t2.1 t2.2)) fun _ => pw_or1 (pt_neSame (pd_reprT hr hgd T.free.repr (pd_call T.heard hr (da_rcv 0 rfl da_nil) ⟨_, p, lay, mail, L, rfl, rfl⟩) t3.2.2 t3.1 t3.2.1) (pd_reprT hr hgd T.free.repr (pd_call T.heard hr (da_rcv 0 rfl da_nil) ⟨_, p, lay, mail, L, rfl, rfl⟩) t3.2.2 t3.1 t3.2.1))).pt rfl)) ?_
  refine sd_seq (sd_par' 10 11 rfl sc_stands.nd (pd_call T.unfit hr (da_cons (pd_var 1 rfl) (da_cons (pd_var 2 rfl) (da_cons (pd_var 3 rfl) da_nil))) ⟨p, lay, mail, hl, hM, rfl, rfl⟩) (pd_call T.heard hr (da_rcv 0 rfl da_nil) ⟨_, p, lay, mail, L, rfl, rfl⟩)) ?_
  cases hu : NLM.unfitIn p lay mail with
  | cons n rest =>
    have eh : heardD p lay mail = .int n := by
      unfold heardD
      rw [hu]
    have em : m = .none := by
      rcases hmsg with h | ⟨msg, _, h, _⟩
      · exact h
      · rw [hu] at h
        cases h
    subst em
    refine sd_cons (M := fun _ => False) (sd_if (k1 := true) (pd_isT (pt_ne hr (pd_var 10 rfl) (pd_lst ds_nil (Nat.zero_le _)) sh_ints.1 sh_nil) (by rw [dL_nil]; rfl)) (fun _ => sd_last (sd_ret ?_ rfl)) (fun z => nomatch z)) fun _ z => z.elim
    exact pd_is (pd_and (k1 := true) (k2 := true) (pd_is (pd_eqI (i := n) (j := n) (pd_is (pd_var 11 rfl) eh) (pd_ixL (pd_var 10 rfl) pd_int (atI_nat (j := 0) rfl))) (by rw [decide_eq_true rfl])) fun _ => pe_one (pd_isN (d := .none) (pd_var 4 rfl) pd_none)) rfl
  | nil =>
    have eh : heardD p lay mail = .list [dI (NLM.readIn p lay mail)] := by
      unfold heardD
      rw [hu]
    refine sd_seq (sd_no (pd_isT (pt_ne hr (pd_var 10 rfl) (pd_lst ds_nil (Nat.zero_le _)) sh_ints.1 sh_nil) (by rw [dL_nil]; rfl))) ?_
    refine sd_seq (sd_no (pd_isT (pt_or (pt_notD (pt_valD (pd_isi (d := .list [dI (NLM.readIn p lay mail)]) (k1 := true) T.free.isinstance T.free.list (n := "list") (by decide +kernel) (pd_is (pd_var 11 rfl) eh) kit_ll))) fun _ => pw_or1 (pt_notD (pt_valD (pd_call T.right hr (da_cons (pd_var 1 rfl) (da_cons (pd_var 2 rfl) (da_cons (pd_var 3 rfl) (da_cons (pd_ixL (d := dI (NLM.readIn p lay mail)) (pd_is (pd_var 11 rfl) eh) pd_int (atI_nat (j := 0) rfl)) da_nil)))) ⟨p, lay, mail, hl, hM, hu, rfl, rfl⟩)))).pt rfl)) ?_
    rcases hmsg with rfl | ⟨msg, rfl, _, hrd⟩
    · exact sd_last (sd_ret (pd_is (pd_or (k1 := true) (k2 := true) (pd_isN (d := .none) (pd_var 4 rfl) pd_none) fun z => nomatch z) rfl) rfl)
    · refine sd_last (sd_ret (pd_is (pd_or (k1 := false) (k2 := true) (pd_isN (d := dI msg) (pd_var 4 rfl) pd_none) fun _ => pe_one (pd_is (pd_eq hr (d1 := dI (NLM.readIn p lay mail)) (d2 := dI (NLM.readIn p lay mail)) (pd_ixL (pd_is (pd_var 11 rfl) eh) pd_int (atI_nat (j := 0) rfl)) (pd_is (pd_slT (pd_var 4 rfl) do_none (do_some (pd_ixT (pd_var 5 rfl) (pd_var 6 rfl) (at_Rk hl hM.short)))) ?_) sh_ints.2 sh_ints.2) (by unfold dI; rw [eqv_tup_ints, decide_eq_true rfl]))) rfl) rfl)
      rw [Rk_read hl hM, cutD_to, ← List.map_take, ← hrd]
      rfl
end
end NL
set_option maxHeartbeats 2000000
/-! The law: only one altered. -/
namespace NL
open PySem PySem.Spec PyProof.Rows L2 StX
theorem atI_let {p : Int} {lay msg : List Int} {i : Int} (h0 : 0 ≤ i) (h1 : i < lay.length) : atI ((NLM.lettersOf p lay msg).map dI) i = some (dI (NLM.letterOf p lay msg i)) := by
  have e : i = ((i.toNat : Nat) : Int) := by omega
  rw [e]
  refine atI_nat ?_
  rw [List.getElem?_map, NLM.letters_at h0 h1, ← e]
  rfl
section
variable {P : Program} {w : World} {K : PySem.W.Frag} {mg : Str → Option Value} {base : Heap} {C f : Addr} {fd : FuncData}
def R_only (ks : List SK) (d : PyData) : Prop := ∃ k p lay mail msg, Live k p lay mail ∧ NLM.MsgOk p lay msg ∧ ks = [k, .dat (dI lay), .dat (dML mail), .dat (dLet p lay msg)] ∧ d = .bool true
theorem sc_only : FnScope ["_law_live", "_law_shares_here", "_law_came", "_law_letters_so", "_law_number", "_law_letter", "_law_wrong", "_law_place", "_law_need"] ["_law_live", "_law_shares_here", "_law_came", "_law_letters_so"] (defScope sOnlyOne) := ⟨rfl, rfl, rfl, by decide +kernel, rfl, by decide +kernel, by decide +kernel⟩
theorem ok_only (T : Said P w K mg base C) (F : FnP K "_law_only_one_right" "_law_only_one_right" sOnlyOne [] f fd) (hm : mg "_law_only_one_right" = some (.ref f)) : CalD P w K mg base C 8 "_law_only_one_right" R_only := by
  refine cal_sd F hm sc_only (fun _ _ _ _ _ _ us hl => match us, hl with | [_, _, _, _], _ => rfl) (fun ks d ⟨_, _, _, _, _, _, _, h, _⟩ => by rw [h] <;> rfl) fun cdv A outer s H E ks d hr ⟨k, p, lay, mail, msg, L, hmsg, hks, hd⟩ => ?_
  obtain ⟨hl, hM, init, st, hk⟩ := id L
  subst hks hd hk
  have h8 := hl.l8
  have hsh := hM.short
  have hlet : ∀ m ∈ mail, atI ((NLM.lettersOf p lay msg).map dI) m.1 = some (dI (NLM.letterOf p lay msg m.1)) := fun m hm => atI_let (hM.lo m hm).1 (hM.lo m hm).2
  refine sd_seq (sd_setLcT (own := [("_law_number", 4), ("_law_letter", 5)]) (pt := .pr 4 5) 6 mail encM (fun m => !decide (m.2 = NLM.letterOf p lay msg m.1)) encM (gb := fun m => [.rcv p (dI lay) (dPast (init ++ [(st, mail)])), .dat (dI lay), .dat (dML mail), .dat (dLet p lay msg), .dat (.int m.1), .dat (dI m.2), .un, .un, .un]) rfl sc_only.nd (di_list (pd_var 2 rfl)) (blkOk_by rfl) (fun _ _ _ _ _ => pg_pr 4 5 rfl sc_only.nd) (lt_size (by omega)) ins2 (fun x hx => .pr)
    (fun m hm s H C' cl fp => pts_one (pd_isT (pt_ne hr (d1 := dI m.2) (d2 := dI (NLM.letterOf p lay msg m.1)) (pd_var 5 rfl) (pd_ixT (pd_var 3 rfl) (pd_var 4 rfl) (hlet m hm)) sh_ints.2 sh_ints.2) (by unfold dI; rw [eqv_tup_ints])))
    (fun m hm hb s H C' cl fp => pd_tup (ds_cons (pd_var 4 rfl) (ds_cons (pd_var 5 rfl) ds_nil)) (by show 2 ≤ sizeLine; decide))) ?_
  obtain ⟨mx, hmx⟩ : ∃ mx : NLM.Mail, mx = (if (NLM.wrongIn p lay msg mail).length = 1 then NLM.wrongIn p lay msg mail else []) := ⟨_, rfl⟩
  refine sd_cons (sd_for (ds := mx.map encM) (fun i G => ∃ k4 k5 k7 k8, G = [.rcv p (dI lay) (dPast (init ++ [(st, mail)])), .dat (dI lay), .dat (dML mail), .dat (dLet p lay msg), k4, k5, .dat (.list ((NLM.wrongIn p lay msg mail).map encM)), k7, k8]) rfl
    (di_list (pd_if (k1 := decide ((NLM.wrongIn p lay msg mail).length = 1)) (pd_isT (pt_eqI (pd_lenL T.free.len (pd_var 6 rfl)) pd_int) ?_) (fun h => ?_) fun h => ?_)) (pg_pr 4 5 rfl sc_only.nd) ⟨.un, .un, .un, .un, rfl⟩ ?_ fun G' h => h) ?_
  · rw [Bool.eq_iff_iff, decide_eq_true_eq, decide_eq_true_eq, map_len]
    show ((NLM.wrongIn p lay msg mail).length : Int) = 1 ↔ _
    omega
  · rw [hmx, if_pos (of_decide_eq_true h)]
    exact pd_var 6 rfl
  · rw [hmx, if_neg (of_decide_eq_false h)]
    exact pd_lst ds_nil (Nat.zero_le _)
  · rintro i d Gi hd ⟨k4, k5, k7, k8, rfl⟩
    obtain ⟨m0, ho, rfl⟩ := map_at hd
    have hw : NLM.wrongIn p lay msg mail = [m0] := by
      by_cases h1 : (NLM.wrongIn p lay msg mail).length = 1
      · rw [hmx, if_pos h1] at ho
        have hi := (List.getElem?_eq_some_iff.mp ho).1
        have e0 : i = 0 := by omega
        subst e0
        obtain ⟨x, hx⟩ := List.length_eq_one_iff.mp h1
        rw [hx] at ho ⊢
        rw [Option.some.inj ho]
      · rw [hmx, if_neg h1] at ho
        simp at ho
    have hm0 : m0 ∈ mail := by
      have : m0 ∈ NLM.wrongIn p lay msg mail := by rw [hw]; exact List.mem_singleton.mpr rfl
      exact (List.mem_filter.mp this).1
    have hlo := hM.lo m0 hm0
    refine ⟨_, .pr, sd_last ?_⟩
    refine sd_for (ds := (NLM.needsIn lay).zipIdx.map encI) (fun j G => ∃ k7 k8, G = [.rcv p (dI lay) (dPast (init ++ [(st, mail)])), .dat (dI lay), .dat (dML mail), .dat (dLet p lay msg), .dat (.int m0.1), .dat (dI m0.2), .dat (.list ((NLM.wrongIn p lay msg mail).map encM)), k7, k8]) rfl (di_is (di_enumL T.free.enumerate (pd_call T.needs hr (da_cons (pd_var 1 rfl) da_nil) ⟨lay, hl, rfl, rfl⟩)) (enum_ints (NLM.needsIn lay))) (pg_pr 7 8 rfl sc_only.nd) ⟨k7, k8, rfl⟩ ?_ fun G' ⟨k7, k8, h⟩ => ⟨_, _, k7, k8, h⟩
    rintro j d Gj hd ⟨k7, k8, rfl⟩
    obtain ⟨⟨n, j'⟩, ho2, rfl⟩ := map_at hd
    obtain ⟨rfl, hbo⟩ := zipIdx_at ho2
    have hj : j' < (NLM.needsIn lay).length := (List.getElem?_eq_some_iff.mp hbo).1
    refine ⟨_, .pr, sd_last (sd_if (pt_and (pt_neI (pd_ixT (pd_var 5 rfl) (pd_var 7 rfl) (atI_ints (by rw [hM.len m0 hm0]; exact hj))) (pd_ixT (pd_ixT (pd_var 3 rfl) (pd_var 4 rfl) (hlet m0 hm0)) (pd_var 7 rfl) (atI_ints (by rw [NLM.letter_len]; exact hj)))) fun _ => pw_and1 (pt_ge (pd_lenL T.free.len (pd_var 2 rfl)) (pd_add (pd_var 8 rfl) pd_int))).pt (fun h => ?_) fun h => ?_)⟩
    · obtain ⟨h1, h2⟩ := Bool.and_eq_true_iff.mp h
      have hne : m0.2.getD j' 0 ≠ (NLM.letterOf p lay msg m0.1).getD j' 0 := fun e => by
        rw [decide_eq_true e] at h1
        cases h1
      have hlen := of_decide_eq_true h2
      rw [map_len] at hlen
      have fnd := NLM.one_found hl hM hmsg hw hbo hne hlen
      refine sd_last (sd_ret (pd_is (pd_eq hr (d1 := dI [m0.1]) (d2 := dI [m0.1]) (pd_is (pd_meth0 0 T.cls T.susp hr .r ⟨_, p, lay, mail, L, rfl, rfl⟩) (by rw [fnd])) (pd_tup (ds_cons (pd_var 4 rfl) ds_nil) (by show 1 ≤ sizeLine; decide)) sh_ints.2 sh_ints.2) (by unfold dI; rw [eqv_tup_ints, decide_eq_true rfl])) rfl)
    · exact sd_end ⟨_, _, rfl⟩ (Weak.refl _)
  · rintro G1 ⟨k4, k5, k7, k8, rfl⟩
    exact sd_last (sd_ret pd_bool rfl)
end
end NL
set_option maxHeartbeats 2000000
/-! The law's state, made. -/
namespace NL
open PySem PySem.Spec PyProof.Rows L2 StX
section
variable {P : Program} {w : World} {K : PySem.W.Frag} {mg : Str → Option Value} {base : Heap} {C f : Addr} {fd : FuncData}
def spBegin (K : PySem.W.Frag) : Sp := fun vs H Q _ => ∃ Hi v script, vs = [v] ∧ Same Hi H ∧ Dp K Hi v (dL script) ∧ script.length ≤ 63 ∧
  ∀ Hi' H' a l cells lefts, Ext Hi H Hi' H' → H a = none → H l = none → Hi' a = none → Hi' l = none → a ≠ l → StAt K Hi' H' a l cells lefts 0 → StOk cells lefts 0 0 → Q (.ref a) H'
theorem sc_begin : FnScope ["_law_script", "_law_cells", "_law_cell"] ["_law_script"] (defScope sBegin) := ⟨rfl, rfl, rfl, by decide +kernel, rfl, by decide +kernel, by decide +kernel⟩
def leftOf (c : Int) : Int := if (10 : Int) ^ 18 ≤ c then c else 0
theorem ok_begin (C : Addr) (T : Free mg) (F : FnP K "_law_begin" "_law_begin" sBegin [] f fd) (hm : mg "_law_begin" = some (.ref f)) : CalN P w K mg base 1 "_law_begin" (spBegin K) := by
  refine ⟨f, fd, ["_law_script"], ?_, hm, F.kp, F.bindsN fun _ _ _ _ _ _ us hl => match us, hl with | [_], _ => rfl⟩
  refine F.ok sc_begin (fun vs H Q E ⟨_, _, _, h, _⟩ => by rw [h] <;> rfl) fun cdv A outer s H vs Q E hr h => ?_
  obtain ⟨Hi, v, script, rfl, s0, hv, hl, q⟩ := h
  let cells : List Int := if script = [] then [0] else script
  have hc1 : 1 ≤ cells.length := by
    show 1 ≤ (if script = [] then [0] else script).length
    split
    · exact Nat.le_refl _
    · next h => cases script with | nil => exact (h rfl).elim | cons a b => exact Nat.succ_le_succ (Nat.zero_le _)
  have hc2 : cells.length ≤ 1000 := by
    show (if script = [] then [0] else script).length ≤ 1000
    split
    · decide
    · omega
  have hb : ∀ X : Cx, X = cxOf CX0 P w K mg base ["_law_script", "_law_cells", "_law_cell"] "_law_begin" (defScope sBegin) f cdv A outer s H E → PSs X (defBody sBegin) _ := fun X hX => by
    subst hX
    exact pss_cons (sd_set (C := C) (G := [.dat (dL script), .un, .un]) (R := fun _ => False) 1 sc_begin.nd (d := dL cells)
        (pd_if (k1 := !decide (script = [])) (pd_isT (pt_ne hr (pd_var 0 rfl) (pd_lst ds_nil (Nat.zero_le _)) sh_ints.1 sh_nil) (by rw [dL_nil]))
          (fun h => pd_is (pd_listL T.list (pd_var 0 rfl)) (by
            have e : script ≠ [] := by simpa using h
            show dL script = dL (if script = [] then [0] else script)
            rw [if_neg e]))
          (fun h => pd_is (pd_lst (ds_cons pd_int ds_nil) (by decide)) (by
            have e : script = [] := by simpa using h
            show dL [0] = dL (if script = [] then [0] else script)
            rw [if_pos e]))))
      (pss_one (ps_ret (pe_disp (pps_cons (pd_str (C := C) (G := [.dat (dL script), .dat (dL cells), .un])) (pd_var (C := C) (G := [.dat (dL script), .dat (dL cells), .un]) 1 rfl) (pps_cons (pd_str (C := C) (G := [.dat (dL script), .dat (dL cells), .un]))
          (pe_lcNew (C := C) (G := [.dat (dL script), .dat (dL cells), .un]) (own := [("_law_cell", 2)]) (pt := .nm 2) cells PyData.int (fun c => .int (leftOf c)) (gb := fun x => [.dat (dL script), .dat (dL cells), .dat (.int x)]) rfl sc_begin.nd (di_list (pd_var 1 rfl)) (blkOk_by rfl) (fun _ _ _ _ _ => pg_nm 2 sc_begin.nd) (lt_size (by omega)) ins1 (fun x hx => .nm)
            (fun x hx s H C' cl fp => pd_if (k1 := decide ((10 : Int) ^ 18 ≤ x)) (pt_ge (pd_var 2 rfl) (pd_op op_pow pd_int pd_int (opd_int ⟨by decide, by decide, by decide⟩)))
              (fun h => pd_is (pd_var 2 rfl) (by unfold leftOf; rw [if_pos (of_decide_eq_true h)])) (fun h => pd_is pd_int (by unfold leftOf; rw [if_neg (of_decide_eq_false h)]))))
          (pps_cons (pd_str (C := C) (G := [.dat (dL script), .dat (dL cells), .un])) (pd_int (C := C) (G := [.dat (dL script), .dat (dL cells), .un])) (pps_cons (pd_str (C := C) (G := [.dat (dL script), .dat (dL cells), .un])) (pd_int (C := C) (G := [.dat (dL script), .dat (dL cells), .un])) pps_nil)))) rfl rfl (by decide) (by decide))))
  refine ⟨_, hb _ rfl, ?_⟩
  have S0 : SlotsOk K C H Hi H (L2.start ["_law_script", "_law_cells", "_law_cell"] [v]) [.dat (dL script), .un, .un] := slots_start (ks := [.dat (dL script)]) s0 (.cons hv .nil)
  refine ⟨H, Hi, Hi, ⟨Same.refl _, Same.refl _, fun b o z => .inl z⟩, S0, fun G' σ1 Hi1 H1 hG u1 f1 S1 => ?_, fun _ _ _ _ z => z.elim⟩
  subst hG
  intro p hp
  have E0 : Ext Hi1 H1 Hi1 (upd H1 p (.dK [])) := ⟨same_new hp, Same.refl _, S1.sub.trans (same_new hp), fun b o z => .inl z⟩
  refine ⟨H, Hi1, S1.ext E0, fun v1 Hi2 H2 e2 d1 => ⟨H, Hi2, (S1.ext E0).ext e2, fun v2 Hi3 H3 e3 d2 => ⟨H, Hi3, ((S1.ext E0).ext e2).ext e3, fun v3 Hi4 H4 e4 d3 => ?_⟩⟩⟩
  refine ⟨H, Hi4, (((S1.ext E0).ext e2).ext e3).ext e4, fun l ls Hi5 H5 e5 l1 l2 l3 l4 => ⟨H, Hi5, ((((S1.ext E0).ext e2).ext e3).ext e4).ext e5, fun v5 Hi6 H6 e6 d5 => ⟨H, Hi6, (((((S1.ext E0).ext e2).ext e3).ext e4).ext e5).ext e6, fun v6 Hi7 H7 e7 d6 => ?_⟩⟩⟩
  refine ⟨H, Hi7, ((((((S1.ext E0).ext e2).ext e3).ext e4).ext e5).ext e6).ext e7, fun v7 Hi8 H8 e8 d7 => ⟨H, Hi8, (((((((S1.ext E0).ext e2).ext e3).ext e4).ext e5).ext e6).ext e7).ext e8, fun v8 Hi9 H9 e9 d8 => ?_⟩⟩
  have hid : ∀ {Ha H' Hb H2 : Hp} {b : Addr} {o : HO}, Ext Ha H' Hb H2 → Ha b = none → H' b = some o → Hb b = none := fun {Ha H' Hb H2 b o} e h1 h2 => by
    cases h : Hb b with
    | none => rfl
    | some o2 =>
      rcases e.new b o2 h with q | q
      · rw [h1] at q; cases q
      · rw [h2] at q; cases q
  have e24 := (e2.trans e3).trans e4
  have e69 := ((e6.trans e7).trans e8).trans e9
  have eA := (e24.trans e5).trans e69
  have hp9 : H9 p = some (.dK []) := eA.same _ _ upd_same
  have hpi : Hi9 p = none := hid eA (S1.sub.free hp) upd_same
  have hl9 : H9 l = some (.lst ls) := e69.same _ _ l2
  have hli : Hi9 l = none := hid e69 l3 l2
  have hl0 : H1 l = none := by
    cases h : H1 l with
    | none => rfl
    | some o => rw [(E0.same.trans e24.same) _ _ h] at l1; cases l1
  have hpl : p ≠ l := fun z => by
    rw [← z, e24.same _ _ upd_same] at l1
    cases l1
  obtain rfl := dp_str d1
  obtain rfl := dp_str d3
  obtain rfl := dp_str d5
  obtain rfl := dp_int d6
  obtain rfl := dp_str d7
  obtain rfl := dp_int d8
  have el : ls = (cells.map leftOf).map V.int := dps_ints (ns := cells.map leftOf) (by rw [List.map_map]; exact l4)
  refine ⟨hp9, [(Sum.inr ("cells" : Str), v2), (Sum.inr ("lefts" : Str), .ref l), (Sum.inr ("at" : Str), .int 0), (Sum.inr ("room" : Str), .int 0)], rfl, by show 4 ≤ 15; decide, ?_⟩
  have hpH : H p = none := f1.z.free hp
  have ne : ∀ {Ha : Hp}, Ha p = none → Same Ha H9 → ∀ o, Same Ha (upd H9 p o) := fun h0 h o b o' hb => by
    rw [upd_ne (fun z => by rw [z, h0] at hb; cases hb)]
    exact h _ _ hb
  have em : mergeK [] [(Sum.inr ("cells" : Str), v2), (Sum.inr ("lefts" : Str), V.ref l), (Sum.inr ("at" : Str), V.int 0), (Sum.inr ("room" : Str), V.int 0)] = [(Sum.inr ("cells" : Str), v2), (Sum.inr ("lefts" : Str), V.ref l), (Sum.inr ("at" : Str), V.int 0), (Sum.inr ("room" : Str), V.int 0)] :=
    mergeK_nd _ [] (by show ([Sum.inr ("cells" : Str), Sum.inr ("lefts" : Str), Sum.inr ("at" : Str), Sum.inr ("room" : Str)] : List Key).Nodup; decide)
  rw [em]
  refine q Hi9 _ p l cells (cells.map leftOf) ⟨ne hpH ((f1.z.trans E0.same).trans eA.same) _, f1.up.trans eA.up, ne hpi eA.sub _, fun b o hb => ?_⟩ hpH (f1.z.free hl0) hpi hli hpl ⟨v2, upd_same, dp_mono ((e4.trans e5).trans e69).up _ _ d2, by rw [upd_ne (Ne.symm hpl), hl9, el]⟩ ⟨Int.le_refl _, by decide, by rw [List.length_map], hc1, hc2, fun i hi => ?_⟩
  · rcases eA.new b o hb with z | z
    · exact f1.new b o z
    · exact .inr ((f1.z.trans E0.same).free z)
  · obtain ⟨c, _, rfl⟩ := List.mem_map.mp hi
    unfold leftOf
    split
    · next h => exact Int.le_trans (by decide) h
    · exact Int.le_refl _
end
end NL
set_option maxHeartbeats 2000000
/-! Receivers, rows, the state: made and bound to names. -/
namespace NL
open PySem PySem.Spec PyProof.Rows L2 StX
/-- the class makes receivers -/
structure MkR (P : Program) (w : World) (K : PySem.W.Frag) (mg : Str → Option Value) (base : Heap) (C : Addr) : Prop where
  ex : ∃ (f : Addr) (fd : FuncData), Mk K C f ∧ FnOk P w K mg base CX0 5 f fd ["self", "prime", "laying"] (spInit K C) ∧ mg "Receiver" = some (.ref C) ∧ Binds K fd ["self", "prime", "laying"] []
abbrev past0 : PyData := dPast [(.tuple [], [])]
section
variable {X : Cx} {C : Addr} {G : List SK} {a b e : Expr} {es : List Expr} {pos q p2 : Pos} {d d1 d2 : PyData} {M : PyData → List SK → Prop} {N : List SK → Prop} {R : PyData → List SK → Prop} {p : Int} {lay : List Int} {j : Nat}
def tRcv (K : PySem.W.Frag) (C : Addr) (G : List SK) (p : Int) (lay : List Int) : TE := fun σ H Q => ∃ Z Hi, SlotsOk K C Z Hi H σ G ∧ ∀ x Hi' H', Ext Hi H Hi' H' → H x = none → Hi' x = none → RcvAt K C Hi' H' x p (dI lay) past0 → Q (.ref x) H'
theorem pe_rcv (m : MkR X.prog X.w X.K X.mg X.base C) (hr : Room j X.A) (ha : PA X (e :: es) (tDs X.K C G [.int p, dI lay])) (hp : p ∈ NLM.PR) (hl : NLM.LayOk lay) (hj : 6 ≤ j := by decide) (hg : Gl X "Receiver" := by rfl)
    (he : starEach (e :: es) X.env = (false, eval e X.env) :: starEach es X.env := by rfl) (hpl : (backTo pos (starEach es X.env)).any (·.1) = false := by rfl) : PE X (.Call (.Name "Receiver" q) (e :: es) [] pos) (tRcv X.K C G p lay) := by
  obtain ⟨f, fd, M, F, hm, hb⟩ := m.ex
  refine pe_to (pe_make M F (hr.mono hj) hg hm hb .nil pass0 ha (by decide) he hpl) ?_
  rintro σ H Q ⟨Z, Hi, S, k⟩
  refine ⟨Z, Hi, S, fun vs Hi1 H1 e1 hd x dx hx hdx hne => ?_⟩
  cases hd with
  | cons g1 g2 =>
    cases g2 with
    | cons g2 g3 =>
      cases g3
      obtain rfl := dp_int g1
      have n1 : Same H1 (upd (upd H1 dx (.own x)) x (.ins C dx [])) := (same_new hdx).trans (same_new (by rw [upd_ne (Ne.symm hne)]; exact hx))
      refine ⟨Hi1, x, dx, p, lay, _, rfl, e1.sub.trans n1, upd_same, e1.sub.free hx, g2, hp, hl, fun Hi' H' u1 u2 u3 u4 u5 => ⟨rfl, ?_⟩⟩
      have E : Ext Hi1 H1 Hi' H' := ⟨fun b o hb => u3 b o (fun z => by rw [z, hx] at hb; cases hb) (n1 b o hb), u1, u2, fun b o hb => (u4 b o hb).imp id n1.free⟩
      refine k x Hi' H' (e1.trans E) (e1.same.free hx) ?_ u5
      cases h : Hi' x with
      | none => rfl
      | some o =>
        rcases u4 x o h with z | z
        · rw [e1.sub.free hx] at z; cases z
        · rw [upd_same] at z; cases z
/-- a, b = x, y: data, all told -/
theorem sm_par {MA : List PyData → List SK → Prop} (i j : Nat) {x y : Str} {px py pt pt2 : Pos} {kt k2 : Nat} (hc : X.calm = true) (hN : X.N.Nodup) (ha : PA X [a, b] (tEA X.K C G MA)) (hn : ∀ ds G', MA ds G' → ∃ d1 d2, ds = [d1, d2] ∧ N ((G'.set i (.dat d1)).set j (.dat d2))) (hij : i ≠ j := by decide) (hi : X.N[i]? = some x := by rfl) (hj : X.N[j]? = some y := by rfl)
    (hx : X.env.scope.names.lookup x = some .local := by rfl) (hy : X.env.scope.names.lookup y = some .local := by rfl)
    (hw : swappedStores [.Tuple [.Name x px, .Name y py] kt pt] (.Tuple [a, b] k2 pt2) X.env = pure (some [x, y]) := by rfl)
    (hs : swapsWithSole [.Tuple [.Name x px, .Name y py] kt pt] (.Tuple [a, b] k2 pt2) pos.line X.env = pure false := by rfl) :
    PS X (.Assign [.Tuple [.Name x px, .Name y py] kt pt] (.Tuple [a, b] k2 pt2) pos) (tM X.K C G N R) :=
  ps_to (ps_par hc hN hi hj hij hx hy ha hw hs) fun D σ H ⟨Z, Hi0, Hi, f, S, q1, q2⟩ => ⟨Z, Hi, f.z, S, fun vs Hi1 H1 ds G1 m f1 S1 hv => by
    obtain ⟨d1, d2, rfl, n⟩ := hn ds G1 m
    cases hv with
    | cons h1 h2 =>
      cases h2 with
      | cons h2 h3 =>
        cases h3
        exact ⟨_, _, rfl, q1 _ _ Hi1 H1 n f1.up (f.stepM f1) ((S1.setD h1).setD h2)⟩⟩
theorem Fr.ext0 {Z Hi0 Hi H Hi' H' : Hp} (f : Fr Z Hi0 Hi H) (e : Ext Hi H Hi' H') : Fr Z Hi0 Hi' H' := f.ext e
/-- a, b = Receiver(..), Receiver(..) -/
theorem sm_newRR {p1 p2' : Int} {l1 l2 : List Int} (i j : Nat) {x y : Str} {px py pt pt2 : Pos} {kt k2 : Nat} (hc : X.calm = true) (hN : X.N.Nodup) (ha : PE X a (tRcv X.K C G p1 l1)) (hb : PE X b (tRcv X.K C G p2' l2)) (hn : ∀ a1 a2, N ((G.set i (.rcm a1 p1 (dI l1) past0)).set j (.rcm a2 p2' (dI l2) past0)))
    (hij : i ≠ j := by decide) (hi : X.N[i]? = some x := by rfl) (hj : X.N[j]? = some y := by rfl)
    (hx : X.env.scope.names.lookup x = some .local := by rfl) (hy : X.env.scope.names.lookup y = some .local := by rfl) (he : starEach [a, b] X.env = (false, eval a X.env) :: starEach [b] X.env := by rfl) (he2 : starEach [b] X.env = (false, eval b X.env) :: starEach [] X.env := by rfl)
    (hw : swappedStores [.Tuple [.Name x px, .Name y py] kt pt] (.Tuple [a, b] k2 pt2) X.env = pure (some [x, y]) := by rfl)
    (hs : swapsWithSole [.Tuple [.Name x px, .Name y py] kt pt] (.Tuple [a, b] k2 pt2) pos.line X.env = pure false := by rfl) :
    PS X (.Assign [.Tuple [.Name x px, .Name y py] kt pt] (.Tuple [a, b] k2 pt2) pos) (tM X.K C G N R) :=
  ps_to (ps_par hc hN hi hj hij hx hy (pa_cons ha (pa_cons hb pa_nil he2) he) hw hs) fun D σ H ⟨Z, Hi0, Hi, f, S, q1, q2⟩ => ⟨Z, Hi, S, fun x1 Hi1 H1 e1 n1 m1 r1 => ⟨Z, Hi1, S.ext e1, fun x2 Hi2 H2 e2 n2 m2 r2 => by
    have S1 := S.setN (i := i) (v := .ref x1) (k := .rcm x1 p1 (dI l1) past0) e1 ⟨rfl, r1, m1, f.z.free n1⟩ fun a h => by rw [show a = x1 from h]; exact n1
    have S2 := S1.setN (i := j) (v := .ref x2) (k := .rcm x2 p2' (dI l2) past0) e2 ⟨rfl, r2, m2, (f.ext e1).z.free n2⟩ fun a h => by rw [show a = x2 from h]; exact n2
    exact ⟨_, _, rfl, q1 _ _ Hi2 H2 (hn x1 x2) (e1.trans e2).up (f.ext (e1.trans e2)) S2⟩⟩⟩
/-- a, b = Receiver(..), [[]] -/
theorem sm_newRL (i j : Nat) {x y : Str} {px py pt pt2 q1 q2 : Pos} {kt k2 : Nat} (hc : X.calm = true) (hN : X.N.Nodup) (ha : PE X a (tRcv X.K C G p lay)) (hn : ∀ a1 a2, N ((G.set i (.rcm a1 p (dI lay) past0)).set j (.aml a2 [.list []])))
    (hij : i ≠ j := by decide) (hi : X.N[i]? = some x := by rfl) (hj : X.N[j]? = some y := by rfl)
    (hx : X.env.scope.names.lookup x = some .local := by rfl) (hy : X.env.scope.names.lookup y = some .local := by rfl) (he : starEach [a, .List [.List [] q1] q2] X.env = (false, eval a X.env) :: starEach [.List [.List [] q1] q2] X.env := by rfl)
    (hw : swappedStores [.Tuple [.Name x px, .Name y py] kt pt] (.Tuple [a, .List [.List [] q1] q2] k2 pt2) X.env = pure (some [x, y]) := by rfl)
    (hs : swapsWithSole [.Tuple [.Name x px, .Name y py] kt pt] (.Tuple [a, .List [.List [] q1] q2] k2 pt2) pos.line X.env = pure false := by rfl) :
    PS X (.Assign [.Tuple [.Name x px, .Name y py] kt pt] (.Tuple [a, .List [.List [] q1] q2] k2 pt2) pos) (tM X.K C G N R) :=
  ps_to (ps_par hc hN hi hj hij hx hy (pa_cons ha (pa_cons (pe_lst (pa_cons (pd_lst (C := C) (G := G) ds_nil (Nat.zero_le _)) pa_nil)) pa_nil) he) hw hs) fun D σ H ⟨Z, Hi0, Hi, f, S, q1, q2⟩ => ⟨Z, Hi, S, fun x1 Hi1 H1 e1 n1 m1 r1 => ⟨Z, Hi1, S.ext e1, fun v Hi2 H2 e2 h2 => ⟨by show 1 ≤ sizeLine; decide, fun z hz => by
    have E3 : Ext Hi2 H2 Hi2 (upd H2 z (.lst [v])) := Ext.grow ((S.ext e1).ext e2).sub (same_new hz)
    have e23 := e2.trans E3
    have S1 := S.setN (i := i) (v := .ref x1) (k := .rcm x1 p (dI lay) past0) e1 ⟨rfl, r1, m1, f.z.free n1⟩ fun a h => by rw [show a = x1 from h]; exact n1
    have S2 := S1.setN (i := j) (v := .ref z) (k := .aml z [.list []]) e23 ⟨[v], rfl, upd_same, .cons h2 .nil, e2.sub.free hz, ((f.ext e1).ext e2).z.free hz⟩ fun a h => by rw [show a = z from h]; exact e2.same.free hz
    exact ⟨_, _, rfl, q1 _ _ Hi2 _ (hn x1 z) (e1.trans e23).up (f.ext (e1.trans e23)) S2⟩⟩⟩⟩
/-- x = _law_begin(e) -/
theorem sm_begin (i : Nat) {x : Str} {q3 : Pos} {script : List Int} (c : CalN X.prog X.w X.K X.mg X.base 1 "_law_begin" (spBegin X.K)) (hr : Room j X.A) (hN : X.N.Nodup) (ha : PE X a (tD X.K C G (dL script))) (hl : script.length ≤ 63) (hn : ∀ a l k, IsSt a l 0 k → N (G.set i k)) (hj : 1 ≤ j := by decide)
    (hi : X.N[i]? = some x := by rfl) (hx : Loc X.env.scope x := by first | exact Or.inl rfl | exact Or.inr rfl) (hs : swapsWith (.Call (.Name "_law_begin" q) [a] [] p2) (some (.Name x q3)) pos.line X.env = pure false := by rfl)
    (hf : X.fn x = true ∨ X.env.scope.names.lookup x = some .local := by first | exact .inl rfl | exact .inr rfl) (hg : Gl X "_law_begin" := by rfl) (he : starEach [a] X.env = (false, eval a X.env) :: starEach [] X.env := by rfl) :
    PS X (.Assign [.Name x q3] (.Call (.Name "_law_begin" q) [a] [] p2) pos) (tM X.K C G N R) := by
  obtain ⟨_, _, _, F, hm, kp, b⟩ := c.ex
  refine ps_to (ps_set hN hi hx (pe_call F (hr.mono hj) hg hm kp b .nil pass0 (pa_cons ha pa_nil he) (by decide) he (by rfl)) hs hf) ?_
  rintro D σ H ⟨Z, Hi0, Hi, f, S, q1, q2⟩
  refine ⟨Z, Hi, S, fun v Hi1 H1 e1 hv => ⟨Hi1, v, script, rfl, e1.sub, hv, hl, fun Hi2 H2 a l cells lefts e2 n1 n2 m1 m2 hal sa so => ?_⟩⟩
  have S2 := (S.ext e1).setN (i := i) (v := .ref a) (k := .st a l cells lefts 0) e2 ⟨rfl, sa, m1, (f.ext e1).z.free n1, m2, (f.ext e1).z.free n2⟩ fun b h => by
    rcases h with h | h
    · rw [h]; exact n1
    · rw [h]; exact n2
  exact q1 _ _ Hi2 H2 (hn a l _ ⟨cells, lefts, 0, rfl, so⟩) (e1.trans e2).up (f.ext (e1.trans e2)) S2
end
end NL
set_option maxHeartbeats 2000000
/-! A deed: what stands before it and behind it. -/
namespace NL
open PySem PySem.Spec PyProof.Rows L2 StX
def LastIs (ps : Past) (mail : NLM.Mail) : Prop := ∃ init s, ps = init ++ [(s, mail)]
def Near (a b : NLM.Mail) : Prop := a.Sublist b ∨ b.Sublist a
structure Duo (x ar : Addr) (p : Int) (lay : List Int) (ps : Past) (kr kw : SK) : Prop where
  lo : NLM.LayOk lay
  pr : p ∈ NLM.PR
  kr : kr = .rcm x p (dI lay) (dPast ps)
  kw : kw = .aml ar (ps.map fun r => dML r.2)
  ok : ∀ r ∈ ps, NLM.MailOk p lay r.2
  adj : ∀ (i : Nat) (r s : PyData × NLM.Mail), ps[i]? = some r → ps[i + 1]? = some s → Near r.2 s.2
section
variable {x ar : Addr} {p : Int} {lay : List Int} {ps : Past} {kr kw : SK} {mail m2 : NLM.Mail}
theorem LastIs.uniq (h : LastIs ps mail) (h2 : LastIs ps m2) : mail = m2 := by
  obtain ⟨i, s, e⟩ := h
  obtain ⟨i2, s2, e2⟩ := h2
  have := List.append_inj_right' (e.symm.trans e2) rfl
  injection this with h _
  injection h with _ h
theorem LastIs.ne (h : LastIs ps mail) : 1 ≤ ps.length := by
  obtain ⟨i, s, rfl⟩ := h
  rw [List.length_append]
  exact Nat.le_add_left _ _
theorem LastIs.mem (h : LastIs ps mail) : ∃ s, (s, mail) ∈ ps := by
  obtain ⟨i, s, rfl⟩ := h
  exact ⟨s, List.mem_append_right _ List.mem_cons_self⟩
theorem Duo.own (D : Duo x ar p lay ps kr kw) (h : LastIs ps mail) (hl : ps.length ≤ 900) : Own1 x p lay ps mail kr :=
  ⟨D.lo, let ⟨_, hs⟩ := h.mem; D.ok _ hs, h, hl, D.kr⟩
theorem Duo.push (D : Duo x ar p lay ps kr kw) (h : LastIs ps mail) (st : PyData) (hm : NLM.MailOk p lay m2) (hn : Near mail m2) :
    Duo x ar p lay (ps ++ [(st, m2)]) (.rcm x p (dI lay) (dPast (ps ++ [(st, m2)]))) (.aml ar ((ps.map fun r => dML r.2) ++ [dML m2])) ∧ LastIs (ps ++ [(st, m2)]) m2 := by
  refine ⟨⟨D.lo, D.pr, rfl, by rw [List.map_append]; rfl, fun r hr => ?_, fun i r s h1 h2 => ?_⟩, ps, st, rfl⟩
  · rcases List.mem_append.mp hr with q | q
    · exact D.ok r q
    · rw [List.mem_singleton.mp q]; exact hm
  · by_cases hi : i + 1 < ps.length
    · rw [List.getElem?_append_left (by omega)] at h1
      rw [List.getElem?_append_left hi] at h2
      exact D.adj i r s h1 h2
    · have h3 := (List.getElem?_eq_some_iff.mp h2).1
      rw [List.length_append] at h3
      have h3 : i + 1 < ps.length + 1 := h3
      have ei : i + 1 = ps.length := by omega
      rw [List.getElem?_append_right (by omega), ei, Nat.sub_self] at h2
      injection h2 with h2
      obtain ⟨init, s0, e0⟩ := h
      rw [List.getElem?_append_left (by omega), e0] at h1
      have el : init.length = i := by
        have := congrArg List.length e0
        rw [List.length_append] at this
        have this : ps.length = init.length + 1 := this
        omega
      rw [List.getElem?_append_right (by omega), el, Nat.sub_self] at h1
      injection h1 with h1
      rw [← h1, ← h2]
      exact hn
theorem Duo.pop (D : Duo x ar p lay ps kr kw) (h : LastIs ps mail) (hl : 2 ≤ ps.length) :
    Duo x ar p lay ps.dropLast (.rcm x p (dI lay) (dPast ps.dropLast)) (.aml ar (ps.map fun r => dML r.2).dropLast) ∧ ∃ m', LastIs ps.dropLast m' ∧ Near mail m' := by
  obtain ⟨init, s, rfl⟩ := h
  have hil : 1 ≤ init.length := by
    rw [List.length_append] at hl
    have hl : 2 ≤ init.length + 1 := hl
    omega
  rw [List.dropLast_concat]
  refine ⟨⟨D.lo, D.pr, rfl, by rw [List.map_append]; show SK.aml ar ((init.map fun r => dML r.2) ++ [dML mail]).dropLast = _; rw [List.dropLast_concat], fun r hr => D.ok r (List.mem_append_left _ hr), fun i r s h1 h2 => ?_⟩, ?_⟩
  · have h3 := (List.getElem?_eq_some_iff.mp h2).1
    exact D.adj i r s (by rw [List.getElem?_append_left (by omega)]; exact h1) (by rw [List.getElem?_append_left h3]; exact h2)
  · obtain ⟨i2, ⟨s2, m2⟩, e2⟩ : ∃ i2 b, init = i2 ++ [b] := ⟨init.dropLast, init.getLast (List.length_pos_iff.mp hil), (List.dropLast_concat_getLast _).symm⟩
    subst e2
    refine ⟨m2, ⟨i2, s2, rfl⟩, ?_⟩
    have := D.adj i2.length (s2, m2) (s, mail) (by rw [List.getElem?_append_left (by rw [List.length_append]; exact Nat.lt_succ_self _), List.getElem?_append_right (Nat.le_refl _), Nat.sub_self]; rfl) (by rw [List.getElem?_append_right (by rw [List.length_append]; exact Nat.le_refl _), List.length_append]; show [(s, mail)][i2.length + 1 - (i2.length + 1)]? = _; rw [Nat.sub_self]; rfl)
    exact this.symm
end
section
variable {X : Cx} {C : Addr} {G : List SK} {a : Expr} {pos q : Pos} {M M1 : PyData → List SK → Prop}
theorem te_reprT {n m : Nat} (hr : Room n X.A) (hgd : X.A.guards = some []) (hm : X.mg "repr" = none) (ha : PE X a (tE X.K C G M1)) (hM : ∀ d G', M1 d G' → repKind d = true ∧ Tidy m d ∧ d.weight ≤ 2 ^ 20 ∧ M (.str d.shown) G') (hmn : m ≤ 50 := by decide) (hg : Gl X "repr" := by rfl)
    (he : starEach [a] X.env = (false, eval a X.env) :: starEach [] X.env := by rfl) : PE X (.Call (.Name "repr" q) [a] [] pos) (tE X.K C G M) :=
  pe_to (pe_callB (call_repr_D hr hgd) hg hm (by decide +kernel) (ea_cons (MA := fun ds G' => ∃ d, ds = [d] ∧ M1 d G') (MB := fun d ds G' => ds = [] ∧ M1 d G') ha (fun d1 G1 m => ea_nil ⟨rfl, m⟩) (fun d1 G1 ds G2 _ ⟨e, m⟩ => ⟨d1, by rw [e], m⟩) he) (by decide) (by decide) he (by rfl))
    (te_cb fun ds G1 ⟨d, e, m1⟩ => by
      subst e
      obtain ⟨hk, t, hw, hm'⟩ := hM d G1 m1
      obtain ⟨h1, h2, h3, h4⟩ := t.len hmn hw
      exact ⟨.str d.shown, fun Hi H vs Q s h q => by
        cases h with
        | cons h1' h2' =>
          cases h2'
          exact ⟨_, d, rfl, dp_mono s _ _ h1', hk, h2, h3, h4, h1, q _ Hi H (Ext.refl s) (.str _)⟩, hm'⟩)
end
end NL
set_option maxHeartbeats 2000000
/-! A deed, walked. -/
namespace NL
open PySem PySem.Spec PyProof.Rows L2 StX
/-- what a deed calls -/
structure DeedS (P : Program) (w : World) (K : PySem.W.Frag) (mg : Str → Option Value) (base : Heap) (C : Addr) : Prop where
  free : Free mg
  cls : Rcls K C
  draw : CalG P w K mg base 2 "_law_draw" (SpM K C PreDraw PostDraw)
  of : CalG P w K mg base 3 "_law_of" (SpM K C (PreS PaOf) (PostS 1 PdOf))
  alt : CalG P w K mg base 3 "_law_altered" (SpM K C (PreS PaAlt) (PostS 2 PdAlt))
  come : MetM P w K mg base C 5 "come" [] PreCome PostCome
  drop : MetM P w K mg base C 3 "drop" [] PreDrop PostDrop
  undo : MetM P w K mg base C 2 "undo" [.int 1] PreUndo PostUndo
  known : MetD P w K mg base C 3 "known" R_known
def PreDeed (ms : List SK) (ds : List PyData) : Prop := ∃ a l n k x ar p lay msg ps kr kw mail, IsSt a l n k ∧ n < 800000 ∧ Duo x ar p lay ps kr kw ∧ ps.length ≤ 600 ∧ LastIs ps mail ∧ ms = [k, kr, kw] ∧ ds = [.int p, dLet p lay msg]
def PostDeed (ms : List SK) (ds : List PyData) (d : PyData) (ms' : List SK) : Prop := ∃ k k' kr kr' kw kw' x ar p lay ps ps' mail mail', ms = [k, kr, kw] ∧ ms' = [k', kr', kw'] ∧ StTo 4 k k' ∧ Duo x ar p lay ps kr kw ∧ Duo x ar p lay ps' kr' kw' ∧ LastIs ps mail ∧ LastIs ps' mail' ∧ Near mail mail' ∧ ps'.length ≤ ps.length + 1 ∧ d = .bool true
theorem sc_deed : FnScope ["_law_state", "_law_live", "_law_rows", "_law_prime_so", "_law_letters_so", "_law_came", "_law_choice", "_law_left", "_law_number", "_law_letter", "_law_pair", "_law_one"] ["_law_state", "_law_live", "_law_rows", "_law_prime_so", "_law_letters_so"] (defScope sDeed) := ⟨rfl, rfl, rfl, by decide +kernel, rfl, by decide +kernel, by decide +kernel⟩
def leftIn (lay : List Int) (mail : NLM.Mail) : List Int := ((List.range lay.length).map fun (i : Nat) => (0 : Int) + (i : Int)).filter fun i => !((mail.map (·.1)).any fun y => decide (y = i))
section
variable {P : Program} {w : World} {K : PySem.W.Frag} {mg : Str → Option Value} {base : Heap} {C f : Addr} {fd : FuncData}
theorem nR_st3 {a l : Addr} {n : Nat} {k : SK} {x ar : Addr} {p : Int} {d1 d2 : PyData} {ds : List PyData} {r : List SK} (h : IsSt a l n k) (hr : noRB r = true) : noRB (k :: .rcm x p d1 d2 :: .aml ar ds :: r) = true := nR_st h hr
theorem sh_mailL {p : Int} {lay : List Int} {mail : NLM.Mail} (hl : NLM.LayOk lay) (hM : NLM.MailOk p lay mail) : SeqAt.shaped (dML mail) = true := by
  have h := (td_mail hl hM).1
  unfold dM at h
  cases h with
  | tup h => exact (Tidy.lst h).shaped (by decide)
theorem asc_uniq : ∀ {mail : NLM.Mail} {u v : Int × List Int}, mail.Pairwise (fun a b => a.1 < b.1) → u ∈ mail → v ∈ mail → u.1 = v.1 → u = v
  | [], _, _, _, h, _, _ => by cases h
  | x :: r, u, v, hp, hu, hv, e => by
    obtain ⟨h1, h2⟩ := List.pairwise_cons.mp hp
    rcases List.mem_cons.mp hu with q | q
    · rcases List.mem_cons.mp hv with z | z
      · rw [q, z]
      · have := h1 v z
        rw [← q] at this
        omega
    · rcases List.mem_cons.mp hv with z | z
      · have := h1 u q
        rw [← z] at this
        omega
      · exact asc_uniq h2 q z e
theorem Own1.uniq {x x' : Addr} {p p' : Int} {lay lay' : List Int} {ps ps' : Past} {mail mail' : NLM.Mail} {past : PyData} (O : Own1 x' p' lay' ps' mail' (.rcm x p (dI lay) (dPast ps))) (hL : LastIs ps mail) : x' = x ∧ p' = p ∧ lay' = lay ∧ ps' = ps ∧ mail' = mail := by
  obtain ⟨_, _, h, _, e⟩ := O
  injection e with q1 q2 q3 q4
  have e3 := dI_inj' q3
  have e4 := dPast_inj q4
  subst q1 q2 e3 e4
  exact ⟨rfl, rfl, rfl, rfl, LastIs.uniq h hL⟩
theorem fin_d {a l x ar : Addr} {p : Int} {lay : List Int} {ps ps' : Past} {mail mail' : NLM.Mail} {m c : Nat} {k k1 kr kr' kw kw' : SK} {ds : List PyData} {d : PyData} {G : List SK} (hs : IsSt a l m k) (hx : ∀ c k', IsSt a l (m + c) k' → StTo c k k') (hk1 : IsSt a l (m + c) k1) (hc : c ≤ 4)
    (D : Duo x ar p lay ps kr kw) (D' : Duo x ar p lay ps' kr' kw') (hL : LastIs ps mail) (hL' : LastIs ps' mail') (hn : Near mail mail') (hl : ps'.length ≤ ps.length + 1) (hd : d = .bool true) (hG : G.take 3 = [k1, kr', kw']) : Fin PostDeed [k, kr, kw] ds d G := by
  refine ⟨[k1, kr', kw'], ⟨k, k1, kr, kr', kw, kw', x, ar, p, lay, ps, ps', mail, mail', rfl, rfl, hx 4 k1 (hk1.mono (by omega)), D, D', hL, hL', hn, hl, hd⟩, ?_, hG⟩
  rw [D.kr, D'.kr, D.kw, D'.kw]
  show [adOf k1, some x, some ar] = [adOf k, some x, some ar]
  rw [ad_st hs, ad_st hk1]
theorem ok_deed (T : DeedS P w K mg base C) (F : FnP K "_law_deed" "_law_deed" sDeed [] f fd) (hm : mg "_law_deed" = some (.ref f)) : CalG P w K mg base 6 "_law_deed" (SpM K C PreDeed PostDeed) := by
  refine cal_sm F hm sc_deed (fun _ _ _ _ _ _ us hl => match us, hl with | [_, _, _, _, _], _ => rfl) (fun ms ds ⟨_, _, _, _, _, _, _, _, _, _, _, _, _, _, _, _, _, _, h1, h2⟩ => by rw [h1, h2] <;> rfl) fun cdv A outer s H E ms ds hgd hr ⟨a, l, n, k, x, ar, p, lay, msg, ps, kr, kw, mail, hs, hn, D, hps, hL, h1, h2⟩ => ?_
  subst h1 h2
  obtain ⟨m, hmn, hsm, hx⟩ := st_exact hs
  have hkr := D.kr
  have hkw := D.kw
  subst hkr hkw
  have h8 := D.lo.l8
  have hl1 := D.lo.l1
  obtain ⟨sl, hmem⟩ := hL.mem
  have hM := D.ok _ hmem
  have hM : NLM.MailOk p lay mail := hM
  have hsh := hM.short
  have hat : atI (ps.map fun r => dML r.2) (-1) = some (dML mail) := by
    obtain ⟨init, s0, rfl⟩ := hL
    rw [List.map_append]
    exact atI_last _ _
  have nR0 : noRB [k, .rcm x p (dI lay) (dPast ps), .aml ar (ps.map fun r => dML r.2), .dat (.int p), .dat (dLet p lay msg), .un, .un, .un, .un, .un, .un, .un] = true := nR_st hsm rfl
  refine sm_cons (N1 := fun g => ∃ c k1, 0 ≤ c ∧ c < 8 ∧ IsSt a l (m + 1) k1 ∧ g = [k1, .rcm x p (dI lay) (dPast ps), .aml ar (ps.map fun r => dML r.2), .dat (.int p), .dat (dLet p lay msg), .dat (dML mail), .dat (.int c), .un, .un, .un, .un, .un])
    (sm_asg (pt := .pr 5 6) (M := fun d G' => ∃ c k1, d = .tuple [dML mail, .int c] ∧ 0 ≤ c ∧ c < 8 ∧ IsSt a l (m + 1) k1 ∧ G' = [k1, .rcm x p (dI lay) (dPast ps), .aml ar (ps.map fun r => dML r.2), .dat (.int p), .dat (dLet p lay msg), .un, .un, .un, .un, .un, .un, .un])
      (te_tup (MA := fun ds G' => ∃ c k1, ds = [dML mail, .int c] ∧ 0 ≤ c ∧ c < 8 ∧ IsSt a l (m + 1) k1 ∧ G' = [k1, .rcm x p (dI lay) (dPast ps), .aml ar (ps.map fun r => dML r.2), .dat (.int p), .dat (dLet p lay msg), .un, .un, .un, .un, .un, .un, .un])
        (ea_cons (M1 := fun d G' => d = dML mail ∧ G' = [k, .rcm x p (dI lay) (dPast ps), .aml ar (ps.map fun r => dML r.2), .dat (.int p), .dat (dLet p lay msg), .un, .un, .un, .un, .un, .un, .un]) (MB := fun _ ds G' => ∃ c k1, ds = [.int c] ∧ 0 ≤ c ∧ c < 8 ∧ IsSt a l (m + 1) k1 ∧ G' = [k1, .rcm x p (dI lay) (dPast ps), .aml ar (ps.map fun r => dML r.2), .dat (.int p), .dat (dLet p lay msg), .un, .un, .un, .un, .un, .un, .un])
          (te_p (pd_amAt 2 rfl (pd_neg pd_int) hat) ⟨rfl, rfl⟩)
          (fun d1 G1 ⟨_, hG⟩ => by
            subst hG
            exact ea_cons (MB := fun d ds G' => ds = [] ∧ ∃ c k1, d = .int c ∧ 0 ≤ c ∧ c < 8 ∧ IsSt a l (m + 1) k1 ∧ G' = [k1, .rcm x p (dI lay) (dPast ps), .aml ar (ps.map fun r => dML r.2), .dat (.int p), .dat (dLet p lay msg), .un, .un, .un, .un, .un, .un, .un]) (te_draw 0 T.draw hgd hr rfl hsm (by omega) pd_int (by decide) (by decide) nR0)
              (fun d G' ⟨r, k', e, r0, r1, hk', hG⟩ => ea_nil ⟨rfl, r, k', e, r0, r1, hk', by rw [hG]; rfl⟩) (fun d1 G1 ds G2 _ ⟨e, c, k1, e1, h⟩ => ⟨c, k1, by rw [e, e1], h⟩))
          (fun d1 G1 ds G2 ⟨e1, _⟩ ⟨c, k1, e2, h⟩ => ⟨c, k1, by rw [e1, e2], h⟩))
        (fun ds G' ⟨c, k1, e, h⟩ => ⟨by rw [e]; show 2 ≤ sizeLine; decide, c, k1, by rw [e], h⟩))
      (pg_pr 5 6 rfl sc_deed.nd) (fun d G' ⟨c, k1, e, c0, c1, hk1, hG⟩ => by
        subst e hG
        exact ⟨_, .pr, c, k1, c0, c1, hk1, rfl⟩)) ?_
  rintro G ⟨c, k1, c0, c1, hk1, rfl⟩
  refine sm_pure (sd_setLcT (own := [("_law_one", 11)]) (pt := .nm 11) 7 ((List.range lay.length).map fun (i : Nat) => (0 : Int) + (i : Int)) PyData.int (fun i => !((mail.map (·.1)).any fun y => decide (y = i))) PyData.int (gb := fun i => [k1, .rcm x p (dI lay) (dPast ps), .aml ar (ps.map fun r => dML r.2), .dat (.int p), .dat (dLet p lay msg), .dat (dML mail), .dat (.int c), .un, .un, .un, .un, .dat (.int i)]) rfl sc_deed.nd
      (di_is (di_rng1 T.free.range (pd_lenT T.free.len (pd_var 4 rfl)) (by rw [map_len]; unfold NLM.lettersOf; rw [List.length_map, List.length_range]; omega)) (by rw [map_len]; unfold NLM.lettersOf; rw [List.length_map, List.length_range, List.map_map]; rfl)) (blkOk_by rfl) (fun _ _ _ _ _ => pg_nm 11 sc_deed.nd) (lt_size (by rw [List.length_map, List.length_range]; omega)) ins1 (fun x hx => .nm)
      (fun i hi s H C' cl fp => pts_one (pt_cmpD op_notIn_seq (pd_var 11 rfl) (pd_is (pd_lc0 (own := [("_law_pair", 10)]) (pt := .nm 10) mail encM (fun m => .int m.1) (gb := fun q => [k1, .rcm x p (dI lay) (dPast ps), .aml ar (ps.map fun r => dML r.2), .dat (.int p), .dat (dLet p lay msg), .dat (dML mail), .dat (.int c), .un, .un, .un, .dat (encM q), .dat (.int i)]) rfl sc_deed.nd (di_list (pd_var 5 rfl)) (blkOk_by rfl) (fun _ _ _ _ _ => pg_nm 10 sc_deed.nd) (lt_size (by omega)) ins1 (fun x hx => .nm)
        (fun q hq s H C' cl fp => pd_ixT (d := .int q.1) (pd_var 10 rfl) pd_int (atI_nat (j := 0) rfl))) (d' := dL (mail.map (·.1))) (by unfold dL; rw [List.map_map]; rfl)) (opd_inL (neg := true))))
      (fun i hi hb s H C' cl fp => pd_var 11 rfl)) ?_
  have hfin : ∀ {ps' : Past} {kr' kw' k' : SK} {mail' : NLM.Mail} {c' : Nat} {ds : List PyData} {d : PyData} {G : List SK}, IsSt a l (m + c') k' → c' ≤ 4 → Duo x ar p lay ps' kr' kw' → LastIs ps' mail' → Near mail mail' → ps'.length ≤ ps.length + 1 → d = .bool true → G.take 3 = [k', kr', kw'] → Fin PostDeed [k, .rcm x p (dI lay) (dPast ps), .aml ar (ps.map fun r => dML r.2)] ds d G := fun hk' hc' D' hL' hn' hl' hd' hG' => fin_d hsm hx hk' hc' D D' hL hL' hn' hl' hd' hG'
  have nR1 : noRB [k1, .rcm x p (dI lay) (dPast ps), .aml ar (ps.map fun r => dML r.2), .dat (.int p), .dat (dLet p lay msg), .dat (dML mail), .dat (.int c), .dat (dL (leftIn lay mail)), .un, .un, .un, .un] = true := nR_st hk1 rfl
  refine sm_cons (N1 := fun g => g = [k1, .rcm x p (dI lay) (dPast ps), .aml ar (ps.map fun r => dML r.2), .dat (.int p), .dat (dLet p lay msg), .dat (dML mail), .dat (.int c), .dat (dL (leftIn lay mail)), .un, .un, .un, .un])
    (sm_ifP (pt_and (pt_eqI (pd_var 6 rfl) pd_int) fun _ => pw_and1 (pt_gt (pd_amLen 2 T.free.len rfl) pd_int)).pt (fun h => ?_) fun h => sm_end rfl (Weak.refl _)) ?_
  · have h2 := of_decide_eq_true (Bool.and_eq_true_iff.mp h).2
    rw [map_len] at h2
    have hl2 : 2 ≤ ps.length := by omega
    obtain ⟨D', m', hL', hn'⟩ := D.pop hL hl2
    refine sm_seq (G1 := [k1, .rcm x p (dI lay) (dPast ps), .aml ar (ps.map fun r => dML r.2).dropLast, .dat (.int p), .dat (dLet p lay msg), .dat (dML mail), .dat (.int c), .dat (dL (leftIn lay mail)), .un, .un, .un, .un]) (sm_amPop 2 rfl (fun z => by rw [List.map_eq_nil_iff.mp z] at hl2; cases hl2) rfl) ?_
    refine sm_last (sm_ret (te_cmp op_isN (M1 := fun d G' => d = .none ∧ G' = [k1, .rcm x p (dI lay) (dPast ps.dropLast), .aml ar (ps.map fun r => dML r.2).dropLast, .dat (.int p), .dat (dLet p lay msg), .dat (dML mail), .dat (.int c), .dat (dL (leftIn lay mail)), .un, .un, .un, .un])
      (M2 := fun _ d G' => d = .none ∧ G' = [k1, .rcm x p (dI lay) (dPast ps.dropLast), .aml ar (ps.map fun r => dML r.2).dropLast, .dat (.int p), .dat (dLet p lay msg), .dat (dML mail), .dat (.int c), .dat (dL (leftIn lay mail)), .un, .un, .un, .un])
      (M := fun d G' => d = .bool true ∧ G' = [k1, .rcm x p (dI lay) (dPast ps.dropLast), .aml ar (ps.map fun r => dML r.2).dropLast, .dat (.int p), .dat (dLet p lay msg), .dat (dML mail), .dat (.int c), .dat (dL (leftIn lay mail)), .un, .un, .un, .un])
      (te_meth0 1 T.cls T.undo hr rfl ⟨x, p, dI lay, ps, hl2, by omega, rfl, rfl⟩ (fun d k' ⟨a1, p1, l1, ps1, e1, e2, e3⟩ => ?_) (nR_st hk1 rfl)) (fun d1 G1 ⟨_, hG⟩ => by subst hG; exact te_p pd_none ⟨rfl, rfl⟩) (fun d1 G1 d2 G2 ⟨e1, _⟩ ⟨e2, e3⟩ => by
        subst e1 e2
        exact ⟨_, opd_isN, rfl, e3⟩)) fun d G' ⟨e, hG⟩ => hfin hk1 (by decide) D' hL' hn' (by rw [List.length_dropLast]; omega) e (by rw [hG]; rfl))
    injection e1 with e1
    injection e1 with q1 q2 q3 q4
    injection e3 with e3
    have eps := dPast_inj q4
    subst q1 q2 q3 eps
    exact ⟨e2, by rw [e3]; rfl⟩
  rintro G rfl
  have hem : PyData.eqv (dML mail) (.list []) = decide (mail = []) := by
    unfold dML
    rw [eqv_nil]
    cases mail <;> rfl
  refine sm_cons (N1 := fun g => (mail = [] ∨ leftIn lay mail ≠ []) ∧ g = [k1, .rcm x p (dI lay) (dPast ps), .aml ar (ps.map fun r => dML r.2), .dat (.int p), .dat (dLet p lay msg), .dat (dML mail), .dat (.int c), .dat (dL (leftIn lay mail)), .un, .un, .un, .un])
    (sm_ifP (k := !decide (mail = []) && (decide (c = 1) || decide (leftIn lay mail = []))) (pt_and (pd_isT (pt_ne hr (pd_var 5 rfl) (pd_lst ds_nil (Nat.zero_le _)) (sh_mailL D.lo hM) sh_nil) (by rw [hem])) fun _ => pw_and1 (pt_or (pt_eqI (pd_var 6 rfl) pd_int) fun _ => pw_or1 (pd_isT (pt_eq hr (pd_var 7 rfl) (pd_lst ds_nil (Nat.zero_le _)) sh_ints.1 sh_nil) dL_nil)).pt).pt (fun h => ?_) fun h => sm_end ⟨?_, rfl⟩ (Weak.refl _)) ?_
  · obtain ⟨g1, _⟩ := Bool.and_eq_true_iff.mp h
    have hne : mail ≠ [] := by simpa using g1
    refine sm_cons (N1 := fun g => ∃ m0 k2, m0 ∈ mail ∧ IsSt a l (m + 2) k2 ∧ g = [k2, .rcm x p (dI lay) (dPast ps), .aml ar (ps.map fun r => dML r.2), .dat (.int p), .dat (dLet p lay msg), .dat (dML mail), .dat (.int c), .dat (dL (leftIn lay mail)), .dat (.int m0.1), .dat (dI m0.2), .un, .un])
      (sm_asg (pt := .pr 8 9) (te_callS 0 T.of hgd hr rfl hk1 (ds_cons (pd_var 5 rfl) ds_nil) ⟨by omega, mail.map encM, (fun z => hne (List.map_eq_nil_iff.mp z)), by rw [map_len]; omega, rfl⟩ nR1) (pg_pr 8 9 rfl sc_deed.nd) (fun d G' ⟨k2, hk2, ⟨items, e1, e2⟩, hG⟩ => ?_)) ?_
    · injection e1 with e1
      injection e1 with e1
      rw [← e1] at e2
      obtain ⟨m0, hm0, rfl⟩ := List.mem_map.mp e2
      subst hG
      exact ⟨_, .pr, m0, k2, hm0, hk2, rfl⟩
    rintro G ⟨m0, k2, hm0, hk2, rfl⟩
    have push := fun st => D.push hL st (m2 := NLM.without mail m0.1) (hM.sub List.filter_sublist) (.inr List.filter_sublist)
    refine sm_seq (G1 := [k2, .rcm x p (dI lay) (dPast ps), .aml ar ((ps.map fun r => dML r.2) ++ [dML (NLM.without mail m0.1)]), .dat (.int p), .dat (dLet p lay msg), .dat (dML mail), .dat (.int c), .dat (dL (leftIn lay mail)), .dat (.int m0.1), .dat (dI m0.2), .un, .un])
      (sm_amApp 2 rfl (pd_lcT (own := [("_law_pair", 10)]) (pt := .nm 10) mail encM (fun q => !decide (q.1 = m0.1)) encM (gb := fun q => [k2, .rcm x p (dI lay) (dPast ps), .aml ar (ps.map fun r => dML r.2), .dat (.int p), .dat (dLet p lay msg), .dat (dML mail), .dat (.int c), .dat (dL (leftIn lay mail)), .dat (.int m0.1), .dat (dI m0.2), .dat (encM q), .un]) rfl sc_deed.nd
        (di_list (pd_var 5 rfl)) (blkOk_by rfl) (fun _ _ _ _ _ => pg_nm 10 sc_deed.nd) (lt_size (by omega)) ins1 (fun x hx => .nm)
        (fun q hq s H C' cl fp => pts_one (pt_neI (pd_ixT (d := .int q.1) (pd_var 10 rfl) pd_int (atI_nat (j := 0) rfl)) (pd_var 8 rfl))) (fun q hq hb s H C' cl fp => pd_var 10 rfl)) (lt_size (by rw [map_len]; omega)) rfl) ?_
    have hrg : ∀ i ∈ m0.2, 0 ≤ i ∧ i < 200 := fun i hi => by
      have := hM.rg m0 hm0 i hi
      have := NLM.pr_pos D.pr
      omega
    have ht : Tidy 1 (dI m0.2) := td_ints (n := 0) hrg
    have hw : (dI m0.2).weight ≤ 2 ^ 20 := Nat.le_trans (wt_ints (m := 12) hrg (by rw [hM.len m0 hm0]; exact NLM.needs_len12 D.lo)) (by decide)
    refine sm_last (sm_ret (te_cmp op_eq (M1 := fun d G' => d = .str (dI m0.2).shown ∧ ∃ st, G' = [k2, .rcm x p (dI lay) (dPast (ps ++ [(st, NLM.without mail m0.1)])), .aml ar ((ps.map fun r => dML r.2) ++ [dML (NLM.without mail m0.1)]), .dat (.int p), .dat (dLet p lay msg), .dat (dML mail), .dat (.int c), .dat (dL (leftIn lay mail)), .dat (.int m0.1), .dat (dI m0.2), .un, .un])
      (M2 := fun _ d G' => d = .str (dI m0.2).shown ∧ ∃ st, G' = [k2, .rcm x p (dI lay) (dPast (ps ++ [(st, NLM.without mail m0.1)])), .aml ar ((ps.map fun r => dML r.2) ++ [dML (NLM.without mail m0.1)]), .dat (.int p), .dat (dLet p lay msg), .dat (dML mail), .dat (.int c), .dat (dL (leftIn lay mail)), .dat (.int m0.1), .dat (dI m0.2), .un, .un])
      (M := fun d G' => d = .bool true ∧ ∃ st, G' = [k2, .rcm x p (dI lay) (dPast (ps ++ [(st, NLM.without mail m0.1)])), .aml ar ((ps.map fun r => dML r.2) ++ [dML (NLM.without mail m0.1)]), .dat (.int p), .dat (dLet p lay msg), .dat (dML mail), .dat (.int c), .dat (dL (leftIn lay mail)), .dat (.int m0.1), .dat (dI m0.2), .un, .un])
      (te_reprT hr hgd T.free.repr (M1 := fun d G' => d = dI m0.2 ∧ ∃ st, G' = [k2, .rcm x p (dI lay) (dPast (ps ++ [(st, NLM.without mail m0.1)])), .aml ar ((ps.map fun r => dML r.2) ++ [dML (NLM.without mail m0.1)]), .dat (.int p), .dat (dLet p lay msg), .dat (dML mail), .dat (.int c), .dat (dL (leftIn lay mail)), .dat (.int m0.1), .dat (dI m0.2), .un, .un])
        (te_meth 1 T.cls T.drop hr rfl (ds_cons (pd_var 8 rfl) ds_nil) ⟨x, p, lay, ps, mail, _, m0.1, m0.2, D.own hL (by omega), by omega, hm0, rfl, rfl⟩ (fun d k' ⟨x', p', l', ps', ml', k0, n', let', O, e1, e2, hmem', kk, st, O', e4, e5⟩ => ?_) (nR_st hk2 rfl)) (fun d G' ⟨e, h⟩ => by subst e; exact ⟨rfl, ht, hw, rfl, h⟩))
      (fun d1 G1 ⟨_, st, hG⟩ => by subst hG; exact te_p (pd_reprT hr hgd T.free.repr (pd_var 9 rfl) rfl ht hw) ⟨rfl, st, rfl⟩) (fun d1 G1 d2 G2 ⟨e1, _⟩ ⟨e2, e3⟩ => by
        subst e1 e2
        exact ⟨_, opd_eqS, by rw [decide_eq_true rfl], e3⟩)) fun d G' ⟨e, st, hG⟩ => hfin hk2 (by decide) (push st).1 (push st).2 (.inr List.filter_sublist) (by rw [List.length_append]; exact Nat.le_refl _) e (by rw [hG]; rfl))
    injection e1 with e1
    subst e1
    obtain ⟨q1, q2, q3, q4, q5⟩ := Own1.uniq (past := .none) O hL
    subst q1 q2 q3 q4 q5
    injection e2 with e2
    injection e2 with e2
    subst e2
    have em := asc_uniq hM.asc hmem' hm0 rfl
    have em2 : let' = m0.2 := congrArg Prod.snd em
    injection e5 with e5
    rw [O'.2.2.2.2] at e5
    exact ⟨by rw [e4, em2], st, by rw [e5]; rfl⟩
  · by_cases e : mail = []
    · exact .inl e
    · refine .inr fun z => ?_
      rw [decide_eq_false e, decide_eq_true z, Bool.or_true] at h
      exact absurd h (by decide)
  rintro G ⟨hne, rfl⟩
  have hleft : leftIn lay mail ≠ [] := by
    rcases hne with e | e
    · intro z
      subst e
      have : (0 : Int) ∈ leftIn lay [] := List.mem_filter.mpr ⟨List.mem_map.mpr ⟨0, List.mem_range.mpr hl1, rfl⟩, rfl⟩
      rw [z] at this
      cases this
    · exact e
  have hllen : (leftIn lay mail).length ≤ 1000 := by
    unfold leftIn
    refine Nat.le_trans (List.length_filter_le _ _) ?_
    rw [List.length_map, List.length_range]
    omega
  refine sm_cons (N1 := fun g => ∃ nu k2, nu ∈ leftIn lay mail ∧ IsSt a l (m + 2) k2 ∧ g = [k2, .rcm x p (dI lay) (dPast ps), .aml ar (ps.map fun r => dML r.2), .dat (.int p), .dat (dLet p lay msg), .dat (dML mail), .dat (.int c), .dat (dL (leftIn lay mail)), .dat (.int nu), .un, .un, .un])
    (sm_set 8 sc_deed.nd (te_callS 0 T.of hgd hr rfl hk1 (ds_cons (pd_var 7 rfl) ds_nil) ⟨by omega, (leftIn lay mail).map .int, (fun z => hleft (List.map_eq_nil_iff.mp z)), by rw [map_len]; exact hllen, rfl⟩ nR1) (fun d G' ⟨k2, hk2, ⟨items, e1, e2⟩, hG⟩ => ?_)) ?_
  · injection e1 with e1
    injection e1 with e1
    rw [← e1] at e2
    obtain ⟨nu, hnu, rfl⟩ := List.mem_map.mp e2
    subst hG
    exact ⟨nu, k2, hnu, hk2, rfl⟩
  rintro G ⟨nu, k2, hnu, hk2, rfl⟩
  obtain ⟨hn0, hn1, hnew⟩ : 0 ≤ nu ∧ nu < (lay.length : Int) ∧ ∀ q ∈ mail, q.1 ≠ nu := by
    obtain ⟨g1, g2⟩ := List.mem_filter.mp hnu
    obtain ⟨i, hi, rfl⟩ := List.mem_map.mp g1
    have hi := List.mem_range.mp hi
    refine ⟨by omega, by omega, fun q hq e => ?_⟩
    rw [is_here (letter := q.2) (n := (0 : Int) + (i : Int)) (by rw [← e]; exact hq)] at g2
    cases g2
  refine sm_pure (sd_set 9 sc_deed.nd (d := dI (NLM.letterOf p lay msg nu)) (pd_ixT (pd_var 4 rfl) (pd_var 8 rfl) (atI_let hn0 hn1))) ?_
  have hpp := NLM.pr_pos D.pr
  have h12 := NLM.needs_len12 D.lo
  refine sm_cons (N1 := fun g => ∃ letter k3, IsSt a l (m + 4) k3 ∧ LetOk p letter ∧ letter.length = (NLM.needsIn lay).length ∧ g = [k3, .rcm x p (dI lay) (dPast ps), .aml ar (ps.map fun r => dML r.2), .dat (.int p), .dat (dLet p lay msg), .dat (dML mail), .dat (.int c), .dat (dL (leftIn lay mail)), .dat (.int nu), .dat (dI letter), .un, .un])
    (sm_ifP (pt_eqI (pd_var 6 rfl) pd_int) (fun h => sm_last (sm_set 9 sc_deed.nd (te_callS 0 T.alt hgd hr rfl hk2 (ds_cons (pd_var 3 rfl) (ds_cons (pd_var 9 rfl) ds_nil)) ⟨by omega, p, NLM.letterOf p lay msg nu, D.pr, NLM.letter_range (by omega) nu, by rw [NLM.letter_len]; omega, rfl⟩ (nR_st hk2 rfl)) (fun d G' ⟨k3, hk3, ⟨p', ns, ns', e1, e2, hlo, hle⟩, hG⟩ => ?_)))
      fun h => sm_end ⟨NLM.letterOf p lay msg nu, k2, hk2.mono (by omega), NLM.letter_range (by omega) nu, NLM.letter_len nu, rfl⟩ (Weak.refl _)) ?_
  · injection e1 with q1 q2
    injection q1 with q1
    injection q2 with q2
    have q2 := dI_inj' q2
    subst q1 q2 e2 hG
    exact ⟨ns', k3, hk3, hlo, by rw [hle]; exact NLM.letter_len nu, rfl⟩
  rintro G ⟨letter, k3, hk3, hlo, hle, rfl⟩
  have hM' := hM.ins hn0 hn1 hnew hle hlo
  have push := fun st => D.push hL st (m2 := NLM.insM mail (nu, letter)) hM' (.inl (NLM.insM_sub _ _))
  refine sm_seq (G1 := [k3, .rcm x p (dI lay) (dPast ps), .aml ar ((ps.map fun r => dML r.2) ++ [dML (NLM.insM mail (nu, letter))]), .dat (.int p), .dat (dLet p lay msg), .dat (dML mail), .dat (.int c), .dat (dL (leftIn lay mail)), .dat (.int nu), .dat (dI letter), .un, .un])
    (sm_amApp 2 rfl (pd_sortM (mail := mail ++ [(nu, letter)]) (mail' := NLM.insM mail (nu, letter)) hr T.free.sorted (pd_is (pd_catL (ds := mail.map encM) (es := [encM (nu, letter)]) (pd_var 5 rfl) (pd_lst (ds_cons (pd_tup (ds_cons (pd_var 8 rfl) (ds_cons (pd_var 9 rfl) ds_nil)) (by show 2 ≤ sizeLine; decide)) ds_nil) (by show 1 ≤ sizeLine; decide)) (Nat.le_of_lt (lt_size (by rw [map_len]; show _ + 1 ≤ 1000; omega)))) (by rw [List.map_append]; rfl)) (NLM.insM_perm _ _) hM'.asc (by rw [List.length_append]; show _ + 1 ≤ 1000; omega)) (lt_size (by rw [map_len]; omega)) rfl) ?_
  refine sm_last (sm_ret (te_cmp op_eq (M1 := fun d G' => ∃ k' st, d = .int (Rk lay (mail.length + 1)) ∧ Own1 x p lay (ps ++ [(st, NLM.insM mail (nu, letter))]) (NLM.insM mail (nu, letter)) k' ∧ G' = [k3, k', .aml ar ((ps.map fun r => dML r.2) ++ [dML (NLM.insM mail (nu, letter))]), .dat (.int p), .dat (dLet p lay msg), .dat (dML mail), .dat (.int c), .dat (dL (leftIn lay mail)), .dat (.int nu), .dat (dI letter), .un, .un])
    (M2 := fun _ d G' => ∃ k' st, d = .int (Rk lay (mail.length + 1)) ∧ Own1 x p lay (ps ++ [(st, NLM.insM mail (nu, letter))]) (NLM.insM mail (nu, letter)) k' ∧ G' = [k3, k', .aml ar ((ps.map fun r => dML r.2) ++ [dML (NLM.insM mail (nu, letter))]), .dat (.int p), .dat (dLet p lay msg), .dat (dML mail), .dat (.int c), .dat (dL (leftIn lay mail)), .dat (.int nu), .dat (dI letter), .un, .un])
    (M := fun d G' => ∃ k' st, d = .bool true ∧ Own1 x p lay (ps ++ [(st, NLM.insM mail (nu, letter))]) (NLM.insM mail (nu, letter)) k' ∧ G' = [k3, k', .aml ar ((ps.map fun r => dML r.2) ++ [dML (NLM.insM mail (nu, letter))]), .dat (.int p), .dat (dLet p lay msg), .dat (dML mail), .dat (.int c), .dat (dL (leftIn lay mail)), .dat (.int nu), .dat (dI letter), .un, .un])
    (te_meth 1 T.cls T.come hr rfl (ds_cons (pd_var 8 rfl) (ds_cons (pd_var 9 rfl) ds_nil)) ⟨x, p, lay, ps, mail, _, nu, letter, D.own hL (by omega), by omega, hn0, hn1, hnew, hle, hlo, rfl, rfl⟩ (fun d k' ⟨x', p', l', ps', ml', k0, n', let', O, e1, e2, kk, st, O', e4, e5⟩ => ?_) (nR_st hk3 rfl))
    (fun d1 G1 ⟨k', st, _, O', hG⟩ => by
      obtain ⟨_, _, _, _, ek⟩ := id O'
      subst hG ek
      exact te_p (pd_is (pd_meth0 1 T.cls T.known hr .m ⟨_, p, lay, _, O'.live, rfl, rfl⟩) (d' := .int (Rk lay (mail.length + 1))) (by rw [NLM.insM_len])) ⟨_, st, rfl, O', rfl⟩) (fun d1 G1 d2 G2 ⟨_, _, e1, _⟩ ⟨k', st, e2, O', e3⟩ => by
      subst e1 e2
      exact ⟨_, opd_eqI, k', st, by rw [decide_eq_true rfl], O', e3⟩)) fun d G' ⟨k', st, e, O', hG⟩ => hfin hk3 (by decide) (push st).1 (push st).2 (.inl (NLM.insM_sub _ _)) (by rw [List.length_append]; exact Nat.le_refl _) e (by rw [hG, O'.2.2.2.2]; rfl))
  injection e1 with e1
  subst e1
  obtain ⟨q1, q2, q3, q4, q5⟩ := Own1.uniq (past := .none) O hL
  subst q1 q2 q3 q4 q5
  injection e2 with e2 e3
  injection e2 with e2
  injection e3 with e3
  have e3 := dI_inj' e3
  subst e2 e3
  injection e5 with e5
  subst e5
  exact ⟨_, st, e4, O', rfl⟩
end
end NL
set_option maxHeartbeats 2000000
/-! Two receivers by hand. -/
namespace NL
open PySem PySem.Spec PyProof.Rows L2 StX
def HasM (x : Addr) (p : Int) (lay : List Int) (mail : NLM.Mail) (len : Nat) (k : SK) : Prop := ∃ ps, Own1 x p lay ps mail k ∧ ps.length ≤ len
section
variable {X : Cx} {C : Addr} {G : List SK} {e : Expr} {es : List Expr} {pos q1 q2 p0 : Pos} {x a : Addr} {y : Str} {p n : Int} {lay letter : List Int} {mail : NLM.Mail} {len j i : Nat} {k : SK} {d : PyData} {l q : PyData} {ks : List SK}
theorem te_come (i : Nat) {pl : Sem Bool} (T : Rcls X.K C) (c : MetM X.prog X.w X.K X.mg X.base C 5 "come" [] PreCome PostCome) (hr : Room j X.A) (hk : G[i]? = some k) (h : HasM x p lay mail len k) (hl : len ≤ 700) (ha : PA X (e :: es) (tDs X.K C G [.int n, dI letter])) (h0 : 0 ≤ n) (h1 : n < (lay.length : Int)) (hnew : ∀ m ∈ mail, m.1 ≠ n)
    (hle : letter.length = (NLM.needsIn lay).length) (hlo : ∀ s ∈ letter, 0 ≤ s ∧ s < p) (nR : noRB G = true) (hkj : 5 ≤ j := by decide)
    (hN : X.N[i]? = some y := by rfl) (hv : Vis X.env.scope y := by first | exact Or.inl rfl | exact Or.inr (Or.inl rfl) | exact Or.inr (Or.inr rfl)) (hd : (y == ("__debug__" : Str)) = false := by decide) (hcd : (y == ("__classdict__" : Str)) = false := by decide)
    (hst : starEach (e :: es) X.env = (false, eval e X.env) :: starEach es X.env := by rfl) (hpl : (backTo pos (starEach es X.env)).any (·.1) = false := by rfl)
    (ht : eval (.Call (.Attribute (.Name y q1) "come" q2) (e :: es) [] pos) X.env = (do
      let ov ← eval (.Name y q1) X.env
      standAt q2.atName
      let (f, first) ← holding [ov] (getMethod ov "come" pl)
      callWith pos f first (backTo pos (starEach (e :: es) X.env)) (backToKw pos (keywordEach [] X.env))) := by rfl) :
    PE X (.Call (.Attribute (.Name y q1) "come" q2) (e :: es) [] pos) (tE X.K C G (fun d G' => ∃ k', HasM x p lay (NLM.insM mail (n, letter)) (len + 1) k' ∧ d = .int (Rk lay (mail.length + 1)) ∧ G' = G.set i k')) := by
  obtain ⟨ps, O, hps⟩ := h
  have ek := O.2.2.2.2
  subst ek
  refine te_meth (ds := [.int n, dI letter]) i T c hr hk ha ⟨x, p, lay, ps, mail, _, n, letter, O, by omega, h0, h1, hnew, hle, hlo, rfl, rfl⟩ (fun d k' ⟨x', p', l', ps', ml', k0, n', let', O1, e1, e2, kk, st, O', e4, e5⟩ => ?_) nR hkj (by decide) hN hv hd hcd hst hpl ht
  injection e1 with e1
  subst e1
  obtain ⟨q1, q2, q3, q4, q5⟩ := Own1.uniq (past := .none) O1 O.2.2.1
  subst q1 q2 q3 q4 q5
  injection e2 with e2 e3
  injection e2 with e2
  injection e3 with e3
  have e3 := dI_inj' e3
  subst e2 e3
  injection e5 with e5
  subst e5
  exact ⟨_, ⟨_, O', by rw [List.length_append]; show _ + 1 ≤ _; omega⟩, e4, rfl⟩
/-- a receiver, read or one's own, as an argument -/
theorem da_rcvM (n : Nat) (hk : IsR (G[n]?) p l q) (hr : PA X es (tDA X.K C G ks)) (hN : X.N[n]? = some y := by rfl) (hv : Vis X.env.scope y := by first | exact Or.inl rfl | exact Or.inr (Or.inl rfl) | exact Or.inr (Or.inr rfl))
    (hd : (y == ("__debug__" : Str)) = false := by decide) (hcd : (y == ("__classdict__" : Str)) = false := by decide) (hs : starEach (.Name y pos :: es) X.env = (false, eval (.Name y pos) X.env) :: starEach es X.env := by rfl) : PA X (.Name y pos :: es) (tDA X.K C G (.rcv p l q :: ks)) :=
  pa_to (pa_cons (pe_var hN hv hd hcd) hr hs) fun σ H Q ⟨Z, Hi, S, k⟩ => by
    obtain ⟨v, h1, h2⟩ := rcv_slot S hk
    exact ⟨.ref v, h1, Z, Hi, S, fun vs Hi2 H2 e2 h3 => k (.ref v :: vs) Hi2 H2 e2 (.cons ⟨v, rfl, h2.ext e2⟩ h3)⟩
end
section
variable {P : Program} {w : World} {K : PySem.W.Frag} {mg : Str → Option Value} {base : Heap} {C f : Addr} {fd : FuncData}
abbrev layA : List Int := [1, 1, 0]
abbrev layB : List Int := [0, 1, 0, 0]
theorem layA_ok : NLM.LayOk layA := ⟨by decide, by decide, by decide, by decide⟩
theorem layB_ok : NLM.LayOk layB := ⟨by decide, by decide, by decide, by decide⟩
theorem has0 {x : Addr} {p : Int} {lay : List Int} (hl : NLM.LayOk lay) (hp : p ∈ NLM.PR) : HasM x p lay [] 1 (.rcm x p (dI lay) past0) :=
  ⟨[(.tuple [], [])], ⟨hl, .nil hp, ⟨[], .tuple [], rfl⟩, by decide, rfl⟩, Nat.le_refl _⟩
theorem has_nR {x : Addr} {p : Int} {lay : List Int} {mail : NLM.Mail} {len : Nat} {k : SK} {r : List SK} (h : HasM x p lay mail len k) (hr : noRB r = true) : noRB (k :: r) = true := by
  obtain ⟨ps, O, _⟩ := h
  rw [O.2.2.2.2]
  exact hr
def PreHand (ms : List SK) (ds : List PyData) : Prop := ms = [] ∧ ds = []
def PostHand (ms : List SK) (ds : List PyData) (d : PyData) (ms' : List SK) : Prop := d = .bool true ∧ ms' = []
theorem sc_hand : FnScope ["_law_live", "_law_far", "_law_told_so", "_law_number", "_law_sign"] [] (defScope sHandRight) := ⟨rfl, rfl, rfl, by decide +kernel, rfl, by decide +kernel, by decide +kernel⟩
abbrev m1 : NLM.Mail := NLM.insM [] (2, [5, 4])
abbrev m2 : NLM.Mail := NLM.insM m1 (0, [5, 7])
abbrev m3 : NLM.Mail := NLM.insM m2 (1, [5, 1])
def farL : List (Int × Int) := [(0, 7), (1, 0), (2, 5), (3, 8)]
def farM (i : Nat) : NLM.Mail := (farL.take i).map fun q => (q.1, [q.2])
theorem farM_ins : ∀ i : Nat, i < 4 → ∀ q, farL[i]? = some q → NLM.insM (farM i) (q.1, [q.2]) = farM (i + 1) ∧ 0 ≤ q.1 ∧ q.1 < (layB.length : Int) ∧ (∀ m ∈ farM i, m.1 ≠ q.1) ∧ (∀ s ∈ [q.2], 0 ≤ s ∧ s < 11) := by
  intro i hi q hq
  match i, hi with
  | 0, _ => injection hq with hq; subst hq; decide
  | 1, _ => injection hq with hq; subst hq; decide
  | 2, _ => injection hq with hq; subst hq; decide
  | 3, _ => injection hq with hq; subst hq; decide
theorem ok_hand (T : Said P w K mg base C) (mk : MkR P w K mg base C) (come : MetM P w K mg base C 5 "come" [] PreCome PostCome) (F : FnP K "_law_hand_right" "_law_hand_right" sHandRight [] f fd) (hm : mg "_law_hand_right" = some (.ref f)) : CalG P w K mg base 8 "_law_hand_right" (SpM K C PreHand PostHand) := by
  refine cal_sm F hm sc_hand (fun _ _ _ _ _ _ us hl => match us, hl with | [], _ => rfl) (fun ms ds ⟨h1, h2⟩ => by rw [h1, h2] <;> rfl) fun cdv A outer s H E ms ds hgd hr ⟨h1, h2⟩ => ?_
  subst h1 h2
  have eleven : (11 : Int) ∈ NLM.PR := by decide
  refine sm_cons (N1 := fun g => ∃ x1 x2, g = [.rcm x1 11 (dI layA) past0, .rcm x2 11 (dI layB) past0, .un, .un, .un])
    (sm_newRR (p1 := 11) (l1 := layA) (p2' := 11) (l2 := layB) 0 1 rfl sc_hand.nd
      (pe_rcv mk hr (ds_cons pd_int (ds_cons (pd_tup (ds_cons pd_int (ds_cons pd_int (ds_cons pd_int ds_nil))) (by show 3 ≤ sizeLine; decide)) ds_nil)) eleven layA_ok)
      (pe_rcv mk hr (ds_cons pd_int (ds_cons (pd_tup (ds_cons pd_int (ds_cons pd_int (ds_cons pd_int (ds_cons pd_int ds_nil)))) (by show 4 ≤ sizeLine; decide)) ds_nil)) eleven layB_ok)
      fun a1 a2 => ⟨a1, a2, rfl⟩) ?_
  rintro G ⟨x1, x2, rfl⟩
  have hA := has0 (x := x1) layA_ok eleven
  have hB := has0 (x := x2) layB_ok eleven
  refine sm_cons (N1 := fun g => ∃ k3, HasM x1 11 layA m3 4 k3 ∧ g = [k3, .rcm x2 11 (dI layB) past0, .dat (.list [.int 1, .int 2, .int 3, .int 3, dI [0, 1, 2]]), .un, .un])
    (sm_set 2 sc_hand.nd (te_lst (M := fun d G' => d = .list [.int 1, .int 2, .int 3, .int 3, dI [0, 1, 2]] ∧ ∃ k3, HasM x1 11 layA m3 4 k3 ∧ G' = [k3, .rcm x2 11 (dI layB) past0, .un, .un, .un])
      (MA := fun ds G' => ds = [.int 1, .int 2, .int 3, .int 3, dI [0, 1, 2]] ∧ ∃ k3, HasM x1 11 layA m3 4 k3 ∧ G' = [k3, .rcm x2 11 (dI layB) past0, .un, .un, .un])
      (ea_cons (MB := fun _ ds G' => ds = [.int 2, .int 3, .int 3, dI [0, 1, 2]] ∧ ∃ k3, HasM x1 11 layA m3 4 k3 ∧ G' = [k3, .rcm x2 11 (dI layB) past0, .un, .un, .un])
        (te_come (letter := [5, 4]) 0 T.cls come hr rfl hA (by decide) (ds_cons pd_int (ds_cons (pd_tup (ds_cons pd_int (ds_cons pd_int ds_nil)) (by show 2 ≤ sizeLine; decide)) ds_nil)) (by decide) (by decide) (by decide) (by decide) (by decide) rfl)
        (fun d1 G1 ⟨k1, hk1, _, hG⟩ => ?_) (fun d1 G1 ds G2 ⟨_, _, e1, _⟩ ⟨e2, h⟩ => ⟨by rw [e1, e2]; rfl, h⟩))
      (fun ds G' ⟨e, h⟩ => ⟨by rw [e]; show 5 ≤ sizeLine; decide, by rw [e], h⟩)) (fun d G' ⟨e, k3, h, hG⟩ => ⟨k3, h, by rw [hG, e]; rfl⟩)) ?_
  · subst hG
    have live : ∀ {k : SK} {mail : NLM.Mail} {len : Nat}, HasM x1 11 layA mail len k → ∃ ps, k = .rcm x1 11 (dI layA) (dPast ps) ∧ Live (.rcv 11 (dI layA) (dPast ps)) 11 layA mail := fun ⟨ps, O, _⟩ => ⟨ps, O.2.2.2.2, O.live⟩
    obtain ⟨ps1, e1, L1⟩ := live hk1
    have n1 : noRB [k1, .rcm x2 11 (dI layB) past0, .un, .un, .un] = true := has_nR hk1 rfl
    refine ea_cons (M1 := fun d G' => d = .int 2 ∧ G' = [k1, .rcm x2 11 (dI layB) past0, .un, .un, .un]) (MB := fun _ ds G' => ds = [.int 3, .int 3, dI [0, 1, 2]] ∧ ∃ k3, HasM x1 11 layA m3 4 k3 ∧ G' = [k3, .rcm x2 11 (dI layB) past0, .un, .un, .un])
      (te_p (by rw [e1]; exact pd_meth0 0 T.cls T.more hr .m ⟨_, 11, layA, m1, L1, rfl, rfl⟩) ⟨rfl, rfl⟩) (fun d G' ⟨_, hG⟩ => ?_) (fun d1 G1 ds G2 ⟨e1, _⟩ ⟨e2, h⟩ => ⟨by rw [e1, e2], h⟩)
    subst hG
    refine ea_cons (MB := fun _ ds G' => ds = [.int 3, dI [0, 1, 2]] ∧ ∃ k3, HasM x1 11 layA m3 4 k3 ∧ G' = [k3, .rcm x2 11 (dI layB) past0, .un, .un, .un])
      (te_come (letter := [5, 7]) 0 T.cls come hr rfl hk1 (by decide) (ds_cons pd_int (ds_cons (pd_tup (ds_cons pd_int (ds_cons pd_int ds_nil)) (by show 2 ≤ sizeLine; decide)) ds_nil)) (by decide) (by decide) (by decide) (by decide) (by decide) n1)
      (fun d G' ⟨k2, hk2, _, hG⟩ => ?_) (fun d1 G1 ds G2 ⟨_, _, e1, _⟩ ⟨e2, h⟩ => ⟨by rw [e1, e2]; rfl, h⟩)
    subst hG
    refine ea_cons (MB := fun _ ds G' => ds = [dI [0, 1, 2]] ∧ ∃ k3, HasM x1 11 layA m3 4 k3 ∧ G' = [k3, .rcm x2 11 (dI layB) past0, .un, .un, .un])
      (te_come (letter := [5, 1]) 0 T.cls come hr rfl hk2 (by decide) (ds_cons pd_int (ds_cons (pd_tup (ds_cons pd_int (ds_cons pd_int ds_nil)) (by show 2 ≤ sizeLine; decide)) ds_nil)) (by decide) (by decide) (by decide) (by decide) (by decide) (has_nR hk2 rfl))
      (fun d G' ⟨k3, hk3, _, hG⟩ => ?_) (fun d1 G1 ds G2 ⟨_, _, e1, _⟩ ⟨e2, h⟩ => ⟨by rw [e1, e2]; rfl, h⟩)
    subst hG
    obtain ⟨ps3, e3, L3⟩ := live hk3
    refine ea_cons (M1 := fun d G' => d = dI [0, 1, 2] ∧ G' = [k3, .rcm x2 11 (dI layB) past0, .un, .un, .un]) (MB := fun d ds G' => ds = [] ∧ d = dI [0, 1, 2] ∧ ∃ k3, HasM x1 11 layA m3 4 k3 ∧ G' = [k3, .rcm x2 11 (dI layB) past0, .un, .un, .un])
      (te_p (by
        show PE _ _ (tD _ C [k3, .rcm x2 11 (dI layB) past0, .un, .un, .un] _)
        rw [e3]
        exact pd_meth0 0 T.cls T.susp hr .m ⟨_, 11, layA, m3, L3, rfl, congrArg dI (show [0, 1, 2] = NLM.suspectsIn 11 layA m3 by decide +kernel)⟩) ⟨rfl, rfl⟩) (fun d G' ⟨ed, hG⟩ => ?_) (fun d1 G1 ds G2 _ ⟨e2, e1, h⟩ => ⟨by rw [e1, e2], h⟩)
    subst hG ed
    exact ea_nil ⟨rfl, rfl, k3, hk3, rfl⟩
  rintro G ⟨k3, hk3, rfl⟩
  have tt : Tidy 2 (.list [.int 1, .int 2, .int 3, .int 3, dI [0, 1, 2]]) := .lst fun d hd => by
    rcases List.mem_cons.mp hd with rfl | hd
    · exact .int 1 (by decide) (by decide)
    rcases List.mem_cons.mp hd with rfl | hd
    · exact .int 2 (by decide) (by decide)
    rcases List.mem_cons.mp hd with rfl | hd
    · exact .int 3 (by decide) (by decide)
    rcases List.mem_cons.mp hd with rfl | hd
    · exact .int 3 (by decide) (by decide)
    rw [List.mem_singleton.mp hd]
    exact td_ints (n := 0) (by decide)
  refine sm_pure (sd_no (pd_isT (pt_ne hr (pd_var 2 rfl) (pd_lst (ds_cons pd_int (ds_cons pd_int (ds_cons pd_int (ds_cons pd_int (ds_cons (pd_tup (ds_cons pd_int (ds_cons pd_int (ds_cons pd_int ds_nil))) (by show 3 ≤ sizeLine; decide)) ds_nil))))) (by show 5 ≤ sizeLine; decide)) (tt.shaped (by decide)) (tt.shaped (by decide))) (by
    have e := tt.refl
    unfold dI at e ⊢
    exact congrArg (fun b => !b) e))) ?_
  refine sm_cons (N1 := fun g => ∃ k4 kn ks, HasM x2 11 layB (farM 4) 5 k4 ∧ g = [k3, k4, .dat (.list [.int 1, .int 2, .int 3, .int 3, dI [0, 1, 2]]), kn, ks])
    (sm_for (MA := fun ds G' => ds = farL.map encP ∧ G' = [k3, .rcm x2 11 (dI layB) past0, .dat (.list [.int 1, .int 2, .int 3, .int 3, dI [0, 1, 2]]), .un, .un]) (fun ds i g => ds = farL.map encP ∧ ∃ k4 kn ks, HasM x2 11 layB (farM i) (i + 1) k4 ∧ g = [k3, k4, .dat (.list [.int 1, .int 2, .int 3, .int 3, dI [0, 1, 2]]), kn, ks]) rfl
      (ei_p (di_tup (pd_tup (ds_cons (pd_tup (ds_cons pd_int (ds_cons pd_int ds_nil)) (by show 2 ≤ sizeLine; decide)) (ds_cons (pd_tup (ds_cons pd_int (ds_cons pd_int ds_nil)) (by show 2 ≤ sizeLine; decide)) (ds_cons (pd_tup (ds_cons pd_int (ds_cons pd_int ds_nil)) (by show 2 ≤ sizeLine; decide)) (ds_cons (pd_tup (ds_cons pd_int (ds_cons pd_int ds_nil)) (by show 2 ≤ sizeLine; decide)) ds_nil)))) (by show 4 ≤ sizeLine; decide))) ⟨rfl, rfl⟩)
      (pg_pr 3 4 rfl sc_hand.nd) (fun ds G1 ⟨e, hG⟩ => ⟨e, _, _, _, hB, hG⟩) ?_ (fun ds G' ⟨e, k4, kn, ks, h4, hG⟩ => by
        subst e
        exact ⟨k4, kn, ks, h4, hG⟩)) ?_
  · rintro ds i d Gi hdi ⟨rfl, k4, kn, ks, h4, rfl⟩
    obtain ⟨q, hq, rfl⟩ := map_at hdi
    have hi : i < 4 := (List.getElem?_eq_some_iff.mp hq).1
    obtain ⟨f1, f2, f3, f4, f5⟩ := farM_ins i hi q hq
    refine ⟨_, .pr, sm_last (sm_expr (te_come (letter := [q.2]) 1 T.cls come hr rfl h4 (by omega) (ds_cons (pd_var 3 rfl) (ds_cons (pd_tup (ds_cons (pd_var 4 rfl) ds_nil) (by show 1 ≤ sizeLine; decide)) ds_nil)) f2 f3 f4 rfl f5 (has_nR hk3 (has_nR h4 rfl))) (fun d G' ⟨k', hk', _, hG⟩ => ⟨rfl, k', _, _, f1 ▸ hk', hG⟩))⟩
  rintro G ⟨k4, kn, ks, ⟨ps4, O4, _⟩, rfl⟩
  obtain ⟨ps3, O3, _⟩ := hk3
  have e3 := O3.2.2.2.2
  have e4 := O4.2.2.2.2
  subst e3 e4
  have L3 := O3.live
  have L4 := O4.live
  refine sm_last (sm_ret (te_p (M := fun d G' => d = .bool true) (pd_is (pd_and (k1 := true) (k2 := true) (pd_is (pd_eq hr (d1 := dI [2]) (d2 := dI [2]) (pd_is (pd_meth0 1 T.cls T.susp hr .m ⟨_, 11, layB, farM 4, L4, rfl, rfl⟩) (congrArg dI (show NLM.suspectsIn 11 layB (farM 4) = [2] by decide +kernel))) (pd_tup (ds_cons pd_int ds_nil) (by show 1 ≤ sizeLine; decide)) sh_ints.2 sh_ints.2) (by unfold dI; rw [eqv_tup_ints, decide_eq_true rfl]))
    fun _ => pd_and (k1 := true) (k2 := true) (pd_is (pd_cmp op_eq (pd_call T.heard hr (da_rcvM 1 .m da_nil) ⟨_, 11, layB, farM 4, L4, rfl, rfl⟩) pd_int (opd_eqI (i := 2))) rfl)
    fun _ => pe_one (pd_is (pd_cmp op_eq (pd_call T.heard hr (da_rcvM 0 .m da_nil) ⟨_, 11, layA, m3, L3, rfl, rfl⟩) pd_int (opd_eqI (i := 2))) rfl)) rfl) rfl) fun d G' e => ⟨[], ⟨e, rfl⟩, rfl, rfl⟩)
end
end NL
set_option maxHeartbeats 2000000
/-! The law, walked. -/
namespace NL
open PySem PySem.Spec PyProof.Rows L2 StX
/-- what the law calls -/
structure LawS (P : Program) (w : World) (K : PySem.W.Frag) (mg : Str → Option Value) (base : Heap) (C : Addr) : Prop where
  said : Said P w K mg base C
  mkr : MkR P w K mg base C
  begin_ : CalN P w K mg base 1 "_law_begin" (spBegin K)
  hand : CalG P w K mg base 8 "_law_hand_right" (SpM K C PreHand PostHand)
  deed : CalG P w K mg base 6 "_law_deed" (SpM K C PreDeed PostDeed)
  prime : CalG P w K mg base 3 "_law_prime" (SpM K C (PreS PaPrime) (PostS 1 PdPrime))
  shares : CalG P w K mg base 3 "_law_shares" (SpM K C (PreS PaShares) (PostS 18 PdShares))
  message : CalG P w K mg base 3 "_law_message" (SpM K C (PreS PaMsg) (PostS 100 PdMsg))
  letters : CalD P w K mg base C 2 "_law_letters" R_letters
  stands : CalG P w K mg base 8 "_law_stands_right" (SpD K C R_stands)
  only : CalD P w K mg base C 8 "_law_only_one_right" R_only
  len : MetD P w K mg base C 1 "__len__" R_len
section
variable {X : Cx} {C : Addr} {G : List SK} {pos p : Pos} {k j : Nat} {x : Str} {sp : Sp} {M : PyData → List SK → Prop} {Pre : List SK → List PyData → Prop} {Post : List SK → List PyData → PyData → List SK → Prop}
theorem pe_callG0 (c : CalG X.prog X.w X.K X.mg X.base k x sp) (hgd : X.A.guards = some []) (hr : Room k X.A) (hg : Gl X x := by rfl) (hdb : (x == ("__debug__" : Str)) = false := by decide) : PE X (.Call (.Name x p) [] [] pos) (fun σ H Q => sp [] H Q E0) := by
  obtain ⟨f, fd, ps, F, hm, hk, hb⟩ := c.ex
  refine ⟨fun pins s σ H Q I q => ?_⟩
  refine wpAny_Call_Name_kw (ld_glob I hg hm ?_ hdb)
  refine PySem.W.callWith_K0 I.kIn hk ?_
  have hl : (([] : List Value) ++ ([] : List Value)).length = ps.length := by
    have := F.len _ _ _ _ q
    exact this
  have b := hb s [] I.kIn hl
  rw [List.append_nil] at b
  refine wpAny_call (codeAny_mono (F.run X.A X.stack s H ⟨[], []⟩ [] [] Q E0 hgd hr I.env0 b .nil q) fun r s' hq => ?_)
  cases r with
  | error e => exact hq.elim
  | ok fl =>
    cases fl with
    | ret u => exact I.after hq
    | next => exact hq.elim
    | brk => exact hq.elim
    | cont => exact hq.elim
/-- f(), f changing nothing that is there -/
theorem te_call0 (c : CalG X.prog X.w X.K X.mg X.base k x (SpM X.K C Pre Post)) (hgd : X.A.guards = some []) (hr : Room j X.A) (hP : Pre [] []) (hM : ∀ d, Post [] [] d [] → M d G) (nR : noRB G = true := by rfl) (hk : k ≤ j := by decide) (hg : Gl X x := by rfl) (hdb : (x == ("__debug__" : Str)) = false := by decide) : PE X (.Call (.Name x p) [] [] pos) (tE X.K C G M) :=
  pe_to (pe_callG0 c hgd (hr.mono hk) hg hdb) fun σ H Q ⟨Z, Hi, z, S, q⟩ =>
    spm_of (us := []) (is := []) (ms := []) (ws := []) (ds := []) z S (noR_of nR) (by decide) rfl rfl (fun j n h => by simp at h) (fun k h => nomatch h) .nil hP fun v Hi' H' d ms' hp hl f S' hv => by
      match ms', hl with
      | [], _ => exact q v Hi' H' d _ (hM d hp) f S' hv
end
def PreLaw (ms : List SK) (ds : List PyData) : Prop := ms = [] ∧ ∃ script : List Int, script.length ≤ 63 ∧ ds = [dL script]
def PostLaw (ms : List SK) (ds : List PyData) (d : PyData) (ms' : List SK) : Prop := d = .bool true ∧ ms' = []
theorem sc_law : FnScope ["_law_script", "_law_state", "_law_turn", "_law_prime_so", "_law_shares_here", "_law_message_so", "_law_letters_so", "_law_live", "_law_rows", "_law_k", "_law_known_so", "_law_ahead", "_law_heard_here", "_law_plain_so", "_law_number", "_law_letter"] ["_law_script"] (defScope sLaw) := ⟨rfl, rfl, rfl, by decide +kernel, rfl, by decide +kernel, by decide +kernel⟩
section
variable {P : Program} {w : World} {K : PySem.W.Frag} {mg : Str → Option Value} {base : Heap} {C f : Addr} {fd : FuncData}
theorem stair_last {lay : List Int} (hl : NLM.LayOk lay) : atI ((NLM.stairIn lay).map PyData.int) (-1) = some (.int (NLM.needsIn lay).sum) := by
  have h1 := hl.l1
  have hlen : (NLM.stairIn lay).length = lay.length := by rw [NLM.stairIn_eq, NLM.stairFrom_len]
  have h := NLM.stairIn_at (lay := lay) (j := lay.length) (fun s hs => (hl.sh s hs).1) (Nat.le_refl _)
  rw [NLM.sumLe_all] at h
  obtain ⟨n, hn⟩ : ∃ n, lay.length = n + 1 := ⟨lay.length - 1, by omega⟩
  rw [hn, List.getElem?_cons_succ] at h
  have hne : NLM.stairIn lay ≠ [] := fun z => by rw [z] at hlen; simp at hlen; omega
  have e : NLM.stairIn lay = (NLM.stairIn lay).dropLast ++ [(NLM.needsIn lay).sum] := by
    have g : (NLM.stairIn lay).getLast hne = (NLM.needsIn lay).sum := by
      rw [List.getLast_eq_getElem]
      have := (List.getElem?_eq_some_iff.mp h).2
      rw [← this]
      congr 1
      omega
    rw [← g]
    exact (List.dropLast_concat_getLast hne).symm
  rw [e, List.map_append]
  exact atI_last _ _
theorem needs_sum {lay : List Int} (hl : NLM.LayOk lay) : 0 ≤ (NLM.needsIn lay).sum ∧ (NLM.needsIn lay).sum ≤ 100 := by
  have h12 := NLM.needs_len12 hl
  have h8 := hl.l8
  have key : ∀ ns : List Int, (∀ k ∈ ns, 1 ≤ k ∧ k ≤ 8) → 0 ≤ ns.sum ∧ ns.sum ≤ 8 * ns.length := fun ns => by
    induction ns with
    | nil => exact fun _ => by decide
    | cons n r ih =>
      intro h
      have h1 := h n List.mem_cons_self
      have h2 := ih fun k hk => h k (List.mem_cons_of_mem _ hk)
      rw [List.sum_cons, List.length_cons]
      omega
  have := key (NLM.needsIn lay) fun k hk => by
    have := NLM.needsIn_range k hk
    omega
  omega
theorem heard_yes {p : Int} {lay : List Int} {mail : NLM.Mail} (h : NLM.unfitIn p lay mail = []) : heardD p lay mail = .list [dI (NLM.readIn p lay mail)] := by
  unfold heardD
  rw [h]
theorem heard_kit (p : Int) (lay : List Int) (mail : NLM.Mail) : kitB (dTy (heardD p lay mail)) "list" = some (decide (NLM.unfitIn p lay mail = [])) := by
  unfold heardD
  cases h : NLM.unfitIn p lay mail with
  | nil => rw [decide_eq_true rfl]; exact kit_ll
  | cons n r => rw [decide_eq_false (fun z => nomatch z)]; exact kit_il
theorem ok_law (T : LawS P w K mg base C) (F : FnP K "law" "law" sLaw [] f fd) (hm : mg "law" = some (.ref f)) : CalG P w K mg base 10 "law" (SpM K C PreLaw PostLaw) := by
  refine cal_sm F hm sc_law (fun _ _ _ _ _ _ us hl => match us, hl with | [_], _ => rfl) (fun ms ds ⟨h1, _, _, h2⟩ => by rw [h1, h2] <;> rfl) fun cdv A outer s H E ms ds hgd hr ⟨h1, script, hsc, h2⟩ => ?_
  subst h1 h2
  have T0 := T.said.free
  refine sm_seq (G1 := .dat (dL script) :: List.replicate 15 .un) (sm_if (MT := fun b g => b = false ∧ g = .dat (dL script) :: List.replicate 15 .un) (tt_not (MT1 := fun b g => b = true ∧ g = .dat (dL script) :: List.replicate 15 .un) (tt_val (M := fun d g => d = .bool true ∧ g = .dat (dL script) :: List.replicate 15 .un) ?_ (fun d g ⟨e, h⟩ => ⟨true, e, rfl, h⟩)) (fun k g ⟨e, h⟩ => ⟨by rw [e]; rfl, h⟩)) (fun G1 ⟨e, _⟩ => nomatch e) (fun G1 ⟨_, h⟩ => sm_end h (Weak.refl _))) ?_
  · exact te_call0 T.hand hgd hr ⟨rfl, rfl⟩ (fun d ⟨e, _⟩ => ⟨e, rfl⟩)
  refine sm_cons (N1 := fun g => ∃ a l k, IsSt a l 0 k ∧ g = .dat (dL script) :: k :: List.replicate 14 .un) (sm_begin 1 T.begin_ hr sc_law.nd (pd_var 0 rfl) hsc (fun a l k h => ⟨a, l, k, h, rfl⟩)) ?_
  rintro G ⟨a, l, k0, hs0, rfl⟩
  refine sm_cons (N1 := fun g => True) (sm_for (pt := .nm 2) (MA := fun ds g => ds.length ≤ 10 ∧ g = .dat (dL script) :: k0 :: List.replicate 14 .un) (fun ds i g => ds.length ≤ 10 ∧ ∃ k, IsSt a l (159 * i) k ∧ g = .dat (dL script) :: k :: List.replicate 14 .un) rfl
    (ei_p (di_rng1 T0.range (pd_add pd_int (pd_min2 rfl T0.min (pd_lenL T0.len (pd_var 0 rfl)) pd_int)) ?_) ⟨?_, rfl⟩) (pg_nm 2 sc_law.nd) (fun ds G1 ⟨e, h⟩ => ⟨e, k0, hs0, h⟩) ?_ (fun _ _ _ => trivial)) (fun G1 _ => sm_last (sm_ret (te_p (M := fun d _ => d = .bool true) pd_bool rfl) fun d G' e => ⟨[], ⟨e, rfl⟩, rfl, rfl⟩))
  · rw [map_len]
    split <;> omega
  · unfold rngD
    rw [List.length_map, List.length_range, map_len]
    split <;> omega
  · rintro ds i d Gi hdi ⟨hds, k, hk, rfl⟩
    have hi : i < 10 := Nat.lt_of_lt_of_le (List.getElem?_eq_some_iff.mp hdi).1 hds
    refine ⟨_, .nm, ?_⟩
    show PSs _ _ (tM K C [.dat (dL script), k, .dat d, .un, .un, .un, .un, .un, .un, .un, .un, .un, .un, .un, .un, .un] _ _)
    have nR : ∀ {k' : SK} {n : Nat} {r : List SK}, IsSt a l n k' → noRB r = true → noRB (.dat (dL script) :: k' :: r) = true := fun {k' n r} h hr => show noRB (k' :: r) = true from nR_st h hr
    refine sm_cons (N1 := fun g => ∃ p lay k2, p ∈ NLM.PR ∧ NLM.LayOk lay ∧ IsSt a l (159 * i + 1 + 18) k2 ∧ g = [.dat (dL script), k2, .dat d, .dat (.int p), .dat (dI lay), .un, .un, .un, .un, .un, .un, .un, .un, .un, .un, .un])
      (sm_par (MA := fun ds g => ∃ p lay k2, p ∈ NLM.PR ∧ NLM.LayOk lay ∧ IsSt a l (159 * i + 1 + 18) k2 ∧ ds = [.int p, dI lay] ∧ g = [.dat (dL script), k2, .dat d, .un, .un, .un, .un, .un, .un, .un, .un, .un, .un, .un, .un, .un]) 3 4 rfl sc_law.nd
        (ea_cons (MB := fun d1 ds g => ∃ lay k2, NLM.LayOk lay ∧ IsSt a l (159 * i + 1 + 18) k2 ∧ ds = [dI lay] ∧ g = [.dat (dL script), k2, .dat d, .un, .un, .un, .un, .un, .un, .un, .un, .un, .un, .un, .un, .un])
          (te_callS 1 T.prime hgd hr rfl hk ds_nil ⟨by omega, rfl⟩ (nR hk rfl)) (fun d1 G1 ⟨k1, hk1, _, hG⟩ => by
            subst hG
            exact ea_cons (MB := fun d1 ds g => ds = [] ∧ ∃ lay k2, NLM.LayOk lay ∧ IsSt a l (159 * i + 1 + 18) k2 ∧ d1 = dI lay ∧ g = [.dat (dL script), k2, .dat d, .un, .un, .un, .un, .un, .un, .un, .un, .un, .un, .un, .un, .un])
              (te_callS 1 T.shares hgd hr rfl hk1 (ds_cons pd_int ds_nil) ⟨by omega, rfl⟩ (nR hk1 rfl)) (fun d2 G2 ⟨k2, hk2, ⟨lay, hl, e⟩, hG⟩ => ea_nil ⟨rfl, lay, k2, hl, hk2, e, by rw [hG]; rfl⟩) (fun d1 G1 ds G2 _ ⟨e, lay, k2, hl, hk2, e1, h⟩ => ⟨lay, k2, hl, hk2, by rw [e, e1], h⟩))
          (fun d1 G1 ds G2 ⟨_, _, ⟨p, hp, e1⟩, _⟩ ⟨lay, k2, hl, hk2, e2, h⟩ => ⟨p, lay, k2, hp, hl, hk2, by rw [e1, e2], h⟩))
        (fun ds g ⟨p, lay, k2, hp, hl, hk2, e, h⟩ => ⟨.int p, dI lay, e, p, lay, k2, hp, hl, hk2, by rw [h]; rfl⟩)) ?_
    rintro G ⟨p, lay, k2, hp, hl, hk2, rfl⟩
    obtain ⟨hs0, hs1⟩ := needs_sum hl
    have esum : (((NLM.needsIn lay).sum.toNat : Nat) : Int) = (NLM.needsIn lay).sum := by omega
    refine sm_cons (N1 := fun g => ∃ msg k3, NLM.MsgOk p lay msg ∧ IsSt a l (159 * i + 119) k3 ∧ g = [.dat (dL script), k3, .dat d, .dat (.int p), .dat (dI lay), .dat (dI msg), .un, .un, .un, .un, .un, .un, .un, .un, .un, .un])
      (sm_set 5 sc_law.nd (te_callS 1 T.message hgd hr rfl hk2 (ds_cons (pd_var 3 rfl) (ds_cons (pd_is (pd_ixT (pd_call T.said.stair hr (da_cons (pd_var 4 rfl) da_nil) ⟨lay, hl, rfl, rfl⟩) (pd_neg pd_int) (stair_last hl)) (d' := .int (((NLM.needsIn lay).sum.toNat : Nat) : Int)) (by rw [esum])) ds_nil)) ⟨by omega, p, _, hp, by omega, rfl⟩ (nR hk2 rfl)) (fun d' G' ⟨k3, hk3, ⟨p', many, msg, e1, e2, h1, h2⟩, hG⟩ => ?_)) ?_
    · injection e1 with q1 q2
      injection q1 with q1
      injection q2 with q2
      injection q2 with q2
      subst q1 e2 hG
      exact ⟨msg, k3, ⟨by omega, h2⟩, hk3, rfl⟩
    rintro G ⟨msg, k3, hmsg, hk3, rfl⟩
    have hpp := NLM.pr_pos hp
    refine sm_pure (sd_set 6 sc_law.nd (d := dLet p lay msg) (pd_call T.letters hr (da_cons (pd_var 3 rfl) (da_cons (pd_var 4 rfl) (da_cons (pd_var 5 rfl) da_nil))) ⟨p, lay, msg, hp, hl, fun o ho => by have := hmsg.rg o ho; omega, rfl, rfl⟩)) ?_
    refine sm_cons (N1 := fun g => ∃ x ar, g = [.dat (dL script), k3, .dat d, .dat (.int p), .dat (dI lay), .dat (dI msg), .dat (dLet p lay msg), .rcm x p (dI lay) past0, .aml ar [.list []], .un, .un, .un, .un, .un, .un, .un])
      (sm_newRL 7 8 rfl sc_law.nd (pe_rcv T.mkr hr (ds_cons (pd_var 3 rfl) (ds_cons (pd_var 4 rfl) ds_nil)) hp hl) (fun a1 a2 => ⟨a1, a2, rfl⟩)) ?_
    rintro G ⟨x, ar, rfl⟩
    have D0 : Duo x ar p lay [(.tuple [], [])] (.rcm x p (dI lay) past0) (.aml ar [.list []]) := ⟨hl, hp, rfl, rfl, fun r hr => by rw [List.mem_singleton.mp hr]; exact .nil hp, fun j r s h1 h2 => by simp at h2⟩
    refine sm_cons (N1 := fun g => ∃ k kr kw, IsSt a l (159 * i + 159) k ∧ g = [.dat (dL script), k, .dat d, .dat (.int p), .dat (dI lay), .dat (dI msg), .dat (dLet p lay msg), kr, kw, .un, .un, .un, .un, .un, .un, .un])
      (sm_for (pt := .nm 9) (MA := fun ds g => ds.length = 10 ∧ g = [.dat (dL script), k3, .dat d, .dat (.int p), .dat (dI lay), .dat (dI msg), .dat (dLet p lay msg), .rcm x p (dI lay) past0, .aml ar [.list []], .un, .un, .un, .un, .un, .un, .un])
        (fun ds j g => ds.length = 10 ∧ ∃ k kr kw ps mail, IsSt a l (159 * i + 119 + 4 * j) k ∧ Duo x ar p lay ps kr kw ∧ LastIs ps mail ∧ ps.length ≤ j + 1 ∧ g = [.dat (dL script), k, .dat d, .dat (.int p), .dat (dI lay), .dat (dI msg), .dat (dLet p lay msg), kr, kw, .un, .un, .un, .un, .un, .un, .un]) rfl
        (ei_p (di_rng1 T0.range pd_int (by decide)) ⟨rfl, rfl⟩) (pg_nm 9 sc_law.nd) (fun ds G1 ⟨e, h⟩ => ⟨e, k3, _, _, _, [], hk3, D0, ⟨[], _, rfl⟩, Nat.le_refl _, h⟩) ?_ (fun ds g ⟨e, k, kr, kw, ps, mail, hk, _, _, _, h⟩ => ⟨k, kr, kw, by rw [e] at hk; exact hk, h⟩)) ?_
    · rintro ds' j d' Gj hdj ⟨hds', k, kr, kw, ps, mail, hk, D, hL, hps, rfl⟩
      have hj : j < 10 := by
        have := (List.getElem?_eq_some_iff.mp hdj).1
        omega
      refine ⟨_, .nm, ?_⟩
      have hkr := D.kr
      have hkw := D.kw
      subst hkr hkw
      show PSs _ _ (tM K C [.dat (dL script), k, .dat d, .dat (.int p), .dat (dI lay), .dat (dI msg), .dat (dLet p lay msg), .rcm x p (dI lay) (dPast ps), .aml ar (ps.map fun r => dML r.2), .dat d', .un, .un, .un, .un, .un, .un] _ _)
      have hat : ∀ {ps : Past} {mail : NLM.Mail}, LastIs ps mail → atI (ps.map fun r => dML r.2) (-1) = some (dML mail) := fun {ps mail} ⟨init, s0, e⟩ => by
        rw [e, List.map_append]
        exact atI_last _ _
      have L := (D.own hL (by omega)).live
      refine sm_cons (N1 := fun g => g = [.dat (dL script), k, .dat d, .dat (.int p), .dat (dI lay), .dat (dI msg), .dat (dLet p lay msg), .rcm x p (dI lay) (dPast ps), .aml ar (ps.map fun r => dML r.2), .dat d', .dat (.int (mail.length : Int)), .dat (heardD p lay mail), .un, .un, .un, .un])
        (sm_par (MA := fun ds g => ds = [.int (mail.length : Int), heardD p lay mail] ∧ g = [.dat (dL script), k, .dat d, .dat (.int p), .dat (dI lay), .dat (dI msg), .dat (dLet p lay msg), .rcm x p (dI lay) (dPast ps), .aml ar (ps.map fun r => dML r.2), .dat d', .un, .un, .un, .un, .un, .un]) 10 11 rfl sc_law.nd
          (pa_to (ds_cons (pd_is (pd_lenL T0.len (pd_amAt 8 rfl (pd_neg pd_int) (hat hL))) (by rw [map_len])) (ds_cons (pd_call T.said.heard hr (da_rcvM 7 .m da_nil) ⟨_, p, lay, mail, L, rfl, rfl⟩) ds_nil)) fun σ H Q ⟨Z, Hi, z, S, q⟩ => ⟨Z, Hi, S, fun vs Hi' H' e hv => q vs Hi' H' _ _ ⟨rfl, rfl⟩ (FrM.ext z e) (S.ext e) hv⟩)
          (fun ds g ⟨e, h⟩ => ⟨_, _, e, by rw [h]; rfl⟩)) ?_
      rintro G rfl
      have adk : (adOf k).isSome = true := by rw [ad_st hk]; rfl
      refine sm_cons (N1 := fun g => ∃ k' ps' mail', IsSt a l (159 * i + 119 + 4 * j + 4) k' ∧ Duo x ar p lay ps' (.rcm x p (dI lay) (dPast ps')) (.aml ar (ps'.map fun r => dML r.2)) ∧ LastIs ps' mail' ∧ Near mail mail' ∧ ps'.length ≤ ps.length + 1 ∧ g = [.dat (dL script), k', .dat d, .dat (.int p), .dat (dI lay), .dat (dI msg), .dat (dLet p lay msg), .rcm x p (dI lay) (dPast ps'), .aml ar (ps'.map fun r => dML r.2), .dat d', .dat (.int (mail.length : Int)), .dat (heardD p lay mail), .un, .un, .un, .un])
        (sm_if (MT := fun b g => b = false ∧ ∃ k' ps' mail', IsSt a l (159 * i + 119 + 4 * j + 4) k' ∧ Duo x ar p lay ps' (.rcm x p (dI lay) (dPast ps')) (.aml ar (ps'.map fun r => dML r.2)) ∧ LastIs ps' mail' ∧ Near mail mail' ∧ ps'.length ≤ ps.length + 1 ∧ g = [.dat (dL script), k', .dat d, .dat (.int p), .dat (dI lay), .dat (dI msg), .dat (dLet p lay msg), .rcm x p (dI lay) (dPast ps'), .aml ar (ps'.map fun r => dML r.2), .dat d', .dat (.int (mail.length : Int)), .dat (heardD p lay mail), .un, .un, .un, .un])
          ?_ (fun G1 ⟨e, _⟩ => nomatch e) (fun G1 ⟨_, h⟩ => sm_end h (Weak.refl _))) ?_
      · refine (tt_or (MT1 := fun b g => b = false ∧ ∃ k' ps' mail', IsSt a l (159 * i + 119 + 4 * j + 4) k' ∧ Duo x ar p lay ps' (.rcm x p (dI lay) (dPast ps')) (.aml ar (ps'.map fun r => dML r.2)) ∧ LastIs ps' mail' ∧ Near mail mail' ∧ ps'.length ≤ ps.length + 1 ∧ g = [.dat (dL script), k', .dat d, .dat (.int p), .dat (dI lay), .dat (dI msg), .dat (dLet p lay msg), .rcm x p (dI lay) (dPast ps'), .aml ar (ps'.map fun r => dML r.2), .dat d', .dat (.int (mail.length : Int)), .dat (heardD p lay mail), .un, .un, .un, .un])
          (tt_not (MT1 := fun b g => b = true ∧ ∃ k' ps' mail', IsSt a l (159 * i + 119 + 4 * j + 4) k' ∧ Duo x ar p lay ps' (.rcm x p (dI lay) (dPast ps')) (.aml ar (ps'.map fun r => dML r.2)) ∧ LastIs ps' mail' ∧ Near mail mail' ∧ ps'.length ≤ ps.length + 1 ∧ g = [.dat (dL script), k', .dat d, .dat (.int p), .dat (dI lay), .dat (dI msg), .dat (dLet p lay msg), .rcm x p (dI lay) (dPast ps'), .aml ar (ps'.map fun r => dML r.2), .dat d', .dat (.int (mail.length : Int)), .dat (heardD p lay mail), .un, .un, .un, .un])
            (tt_val (te_call (is := [1, 7, 8]) (ms := [k, .rcm x p (dI lay) (dPast ps), .aml ar (ps.map fun r => dML r.2)]) (ds := [.int p, dLet p lay msg]) (M := fun d0 g => d0 = .bool true ∧ ∃ k' ps' mail', IsSt a l (159 * i + 119 + 4 * j + 4) k' ∧ Duo x ar p lay ps' (.rcm x p (dI lay) (dPast ps')) (.aml ar (ps'.map fun r => dML r.2)) ∧ LastIs ps' mail' ∧ Near mail mail' ∧ ps'.length ≤ ps.length + 1 ∧ g = [.dat (dL script), k', .dat d, .dat (.int p), .dat (dI lay), .dat (dI msg), .dat (dLet p lay msg), .rcm x p (dI lay) (dPast ps'), .aml ar (ps'.map fun r => dML r.2), .dat d', .dat (.int (mail.length : Int)), .dat (heardD p lay mail), .un, .un, .un, .un])
              T.deed hgd hr (am_sl 1 rfl adk (am_sl 7 rfl rfl (am_sl 8 rfl rfl (am_dt (ds_cons (pd_var 3 rfl) (ds_cons (pd_var 6 rfl) ds_nil)))))) (.cons rfl adk (.cons rfl rfl (.cons rfl rfl .nil))) ⟨a, l, _, k, x, ar, p, lay, msg, ps, _, _, mail, hk, by omega, D, by omega, hL, rfl, rfl⟩ (fun d0 ms' hpost _ => ?_) (nR hk rfl)) (fun d0 g ⟨e, h⟩ => ⟨true, e, rfl, h⟩)) (fun b g ⟨e, h⟩ => ⟨by rw [e]; rfl, h⟩)) (fun G1 ⟨_, h⟩ => ?_) (fun G1 ⟨e, _⟩ => nomatch e)).pt
        · obtain ⟨k0, k', kr0, kr', kw0, kw', x', ar', p', lay', ps0, ps', ml, ml', e1, e2, e3, D1, D2, hL1, hL2, hnr, hlen, hd⟩ := hpost
          injection e1 with e1 e4
          injection e4 with e4 e5
          injection e5 with e5 _
          have z1 := D1.kr
          rw [← e4] at z1
          injection z1 with q1 q2 q3 q4
          have q3 := dI_inj' q3
          have q4 := dPast_inj q4
          have z2 := D1.kw
          rw [← e5] at z2
          injection z2 with q5 _
          subst e1 q1 q2 q3 q4 q5
          have e6 := LastIs.uniq hL1 hL
          subst e6
          have g1 := D2.kr
          have g2 := D2.kw
          subst g1 g2 e2
          exact ⟨hd, k', ps', ml', e3 a l _ hk, D2, hL2, hnr, hlen, rfl⟩
        · obtain ⟨k', ps', mail', hk', D', hL', hnear, hps', rfl⟩ := h
          have hne := hL'.ne
          exact pw_or1 (tt_p (k := false) (pd_isT (pt_neI (pd_lenR 7 T0.len T.len hr .m ⟨p, dI lay, ps', List.length_pos_iff.mp hne, rfl, rfl⟩ (by omega) (by omega)) (pd_sub (pd_amLen 8 T0.len rfl) pd_int)) (by rw [map_len, decide_eq_true rfl]; rfl)) ⟨rfl, k', ps', mail', hk', D', hL', hnear, hps', rfl⟩)
      rintro G ⟨k', ps', mail', hk', D', hL', hnear, hps', rfl⟩
      have L' := (D'.own hL' (by omega)).live
      have hM : NLM.MailOk p lay mail := (D.own hL (by omega)).2.1
      have hM' : NLM.MailOk p lay mail' := (D'.own hL' (by omega)).2.1
      refine sm_pure (sd_set 12 sc_law.nd (d := heardD p lay mail') (pd_call T.said.heard hr (da_rcvM 7 .m da_nil) ⟨_, p, lay, mail', L', rfl, rfl⟩)) ?_
      refine sm_seq (G1 := [.dat (dL script), k', .dat d, .dat (.int p), .dat (dI lay), .dat (dI msg), .dat (dLet p lay msg), .rcm x p (dI lay) (dPast ps'), .aml ar (ps'.map fun r => dML r.2), .dat d', .dat (.int (mail.length : Int)), .dat (heardD p lay mail), .dat (heardD p lay mail'), .un, .un, .un])
        (sm_ifP (pt_and (pt_lt (pd_var 10 rfl) (pd_lenL T0.len (pd_amAt 8 rfl (pd_neg pd_int) (hat hL')))) fun _ => pt_and (pt_valD (pd_isi T0.isinstance T0.list (n := "list") (by decide +kernel) (pd_var 11 rfl) (heard_kit p lay mail))) fun _ => pw_and1 (pt_valD (pd_isi T0.isinstance T0.list (n := "list") (by decide +kernel) (pd_var 12 rfl) (heard_kit p lay mail')))).pt (fun h => ?_) fun h => sm_end rfl (Weak.refl _)) ?_
      · obtain ⟨h1, h23⟩ := Bool.and_eq_true_iff.mp h
        obtain ⟨h2, h3⟩ := Bool.and_eq_true_iff.mp h23
        have hlt := of_decide_eq_true h1
        rw [map_len] at hlt
        have hu := of_decide_eq_true h2
        have hu' := of_decide_eq_true h3
        have hsub : mail.Sublist mail' := by
          rcases hnear with z | z
          · exact z
          · have := z.length_le
            omega
        obtain ⟨rest, hrest⟩ := NLM.read_grows hl hM hM' hsub hu hu'
        rw [heard_yes hu, heard_yes hu']
        refine sm_last (sm_of (sd_no (pd_isT (pt_ne hr (d1 := dI (NLM.readIn p lay mail)) (d2 := dI (NLM.readIn p lay mail)) (pd_is (pd_slT (pd_ixL (d := dI (NLM.readIn p lay mail')) (pd_var 12 rfl) pd_int (atI_nat (j := 0) rfl)) do_none (do_some (pd_lenT T0.len (pd_ixL (d := dI (NLM.readIn p lay mail)) (pd_var 11 rfl) pd_int (atI_nat (j := 0) rfl))))) ?_) (pd_ixL (d := dI (NLM.readIn p lay mail)) (pd_var 11 rfl) pd_int (atI_nat (j := 0) rfl)) sh_ints.2 sh_ints.2) (by unfold dI; rw [eqv_tup_ints, decide_eq_true rfl]; rfl))))
        rw [map_len, cutD_to, ← List.map_take, ← hrest, List.take_left]
        rfl
      have hlet : ∀ m ∈ mail', atI ((NLM.lettersOf p lay msg).map dI) m.1 = some (dI (NLM.letterOf p lay msg m.1)) := fun m hm => atI_let (hM'.lo m hm).1 (hM'.lo m hm).2
      have h8 := hl.l8
      have hsh := hM'.short
      refine sm_pure (sd_set 13 sc_law.nd (d := .bool (decide (NLM.wrongIn p lay msg mail' = []))) (pd_is (pd_eq hr (d1 := dL ((NLM.wrongIn p lay msg mail').map fun _ => 1)) (d2 := .list []) (pd_is (pd_lcT (own := [("_law_number", 14), ("_law_letter", 15)]) (pt := .pr 14 15) mail' encM (fun m => !decide (m.2 = NLM.letterOf p lay msg m.1)) (fun _ => .int 1) (gb := fun m => [.dat (dL script), k', .dat d, .dat (.int p), .dat (dI lay), .dat (dI msg), .dat (dLet p lay msg), .rcm x p (dI lay) (dPast ps'), .aml ar (ps'.map fun r => dML r.2), .dat d', .dat (.int (mail.length : Int)), .dat (heardD p lay mail), .dat (heardD p lay mail'), .un, .dat (.int m.1), .dat (dI m.2)]) rfl sc_law.nd
          (di_list (pd_amAt 8 rfl (pd_neg pd_int) (hat hL'))) (blkOk_by rfl) (fun _ _ _ _ _ => pg_pr 14 15 rfl sc_law.nd) (lt_size (by omega)) ins2 (fun x hx => .pr)
          (fun m hm s H C' cl fp => pts_one (pd_isT (pt_ne hr (d1 := dI m.2) (d2 := dI (NLM.letterOf p lay msg m.1)) (pd_var 15 rfl) (pd_ixT (pd_var 6 rfl) (pd_var 14 rfl) (hlet m hm)) sh_ints.2 sh_ints.2) (by unfold dI; rw [eqv_tup_ints])))
          (fun m hm hb s H C' cl fp => pd_int)) ?_) (pd_lst ds_nil (Nat.zero_le _)) sh_ints.1 sh_nil) ?_)) ?_
      · show PyData.list _ = PyData.list _
        rw [List.map_map]
        rfl
      · rw [dL_nil, PyData.bool.injEq, Bool.eq_iff_iff, decide_eq_true_eq, decide_eq_true_eq, List.map_eq_nil_iff]
      refine sm_pure (sd_no (pd_isT (pt_notD (pt_valD (pd_callG T.stands hgd hr (da_rcvM 7 .m (da_cons (pd_var 3 rfl) (da_cons (pd_var 4 rfl) (da_cons (pd_amAt 8 rfl (pd_neg pd_int) (hat hL')) (da_cons (pd_if (d := if NLM.wrongIn p lay msg mail' = [] then dI msg else .none) (pt_valD (pd_var 13 rfl)) (fun h => by rw [if_pos (of_decide_eq_true h)]; exact pd_var 5 rfl) (fun h => by rw [if_neg (of_decide_eq_false h)]; exact pd_none)) da_nil))))) ⟨_, p, lay, mail', _, L', ?_, rfl, rfl⟩))) rfl)) ?_
      · by_cases hw : NLM.wrongIn p lay msg mail' = []
        · rw [if_pos hw]
          have ht : ∀ m ∈ mail', m.2 = NLM.letterOf p lay msg m.1 := fun m hm => by
            have := List.filter_eq_nil_iff.mp hw m hm
            simpa using this
          exact .inr ⟨msg, rfl, NLM.true_unfit hl hM' hmsg ht, NLM.true_read hl hM' hmsg ht⟩
        · rw [if_neg hw]
          exact .inl rfl
      refine sm_pure (sd_no (pd_isT (pt_notD (pt_valD (pd_call T.only hr (da_rcvM 7 .m (da_cons (pd_var 4 rfl) (da_cons (pd_amAt 8 rfl (pd_neg pd_int) (hat hL')) (da_cons (pd_var 6 rfl) da_nil)))) ⟨_, p, lay, mail', msg, L', hmsg, rfl, rfl⟩))) rfl)) ?_
      exact sm_end ⟨hds', k', _, _, ps', mail', by rw [show 159 * i + 119 + 4 * (j + 1) = 159 * i + 119 + 4 * j + 4 from by omega]; exact hk', D', hL', by omega, rfl⟩ (.same (.same (.same (.same (.same (.same (.same (.same (.same (.un (.un (.un (.un (.un (.un (.un .nil))))))))))))))))
    rintro G ⟨k', kr, kw, hk', rfl⟩
    exact sm_end (G' := .dat (dL script) :: k' :: List.replicate 14 .un) ⟨hds, k', by rw [show 159 * (i + 1) = 159 * i + 159 from by omega]; exact hk', rfl⟩ (.same (.same (.un (.un (.un (.un (.un (.un (.un (.same (.same (.same (.same (.same (.same (.same .nil))))))))))))))))
end
end NL
set_option maxHeartbeats 2000000
/-! The law's call from outside, where no repr is under way. -/
namespace NL
open PySem PySem.Spec PyProof.Rows L2 StX
/-- the script alone is told, and only where it is none of the module's own objects -/
def scrH (K : PySem.W.Frag) (a : Addr) (u : HO) : Hp := fun b => if b = a ∧ (K.lookup a).isNone = true then some u else none
theorem scrH_at {K : PySem.W.Frag} {a b : Addr} {u v : HO} (h : scrH K a u b = some v) : b = a ∧ K.lookup a = none ∧ v = u := by
  unfold scrH at h
  by_cases q : b = a ∧ (K.lookup a).isNone = true
  · rw [if_pos q] at h
    exact ⟨q.1, Option.isNone_iff_eq_none.mp q.2, (Option.some.inj h).symm⟩
  · rw [if_neg q] at h
    cases h
theorem scrH_self {K : PySem.W.Frag} {a : Addr} {u : HO} (h : K.lookup a = none) : scrH K a u a = some u := if_pos ⟨rfl, by rw [h]; rfl⟩
theorem spm_law {K : PySem.W.Frag} {C a : Addr} {H : Hp} {ns : List Int} {E : XK} (hl : ns.length ≤ 63) (hS : SqL K H a (ns.map V.int)) : SpM K C PreLaw PostLaw [.ref a] H (fun v _ => v = .bl true) E := by
  refine ⟨H, H, [], [.ref a], [], [dL ns], rfl, Same.refl _, ⟨rfl, Same.refl _, fun i k h => ?_, fun i j k l b h => ?_⟩, fun k h => (nomatch h), .cons (.lst hS (ints_dps ns)) .nil, ⟨rfl, ns, hl, rfl⟩, fun v Hi' H' d ms' hp f S hv => ?_⟩
  · simp at h
  · simp at h
  · have e := hp.1
    subst e
    exact dp_bool hv
theorem call_g {P : Program} {w : World} {K : PySem.W.Frag} {mg mb : Str → Option Value} {C fa a : Addr} {k : Nat} {s₁ : Shared} {vs : List Value} {ns : List Int}
    (KX : K.In s₁.heap) (hG : s₁.heap.Ns mainGlobals mg) (hB : s₁.heap.Ns builtinsNs mb) (hBB : ∀ x : Str, x ≠ "__name__" → mb x = bootBuiltins x) (hL : s₁.heap.NoLimit) (hg : s₁.gens = #[])
    (ha : s₁.heap.get? a = some { cls := .type "list", data := .seq vs.toArray }) (hi : IntsAre vs ns) (hl : ns.length ≤ 63) (hr : Room k callerA) (hm : mg "law" = some (.ref fa))
    (F : ∀ base : Heap, CalG P w K mg base k "law" (SpM K C PreLaw PostLaw)) :
    codeAny (model P w) callerA (.call (.ref fa) ⟨[.ref a], []⟩) (fun r s' => r = .ok (.ret (.bool true)) ∧ OldK s₁.heap s'.heap ∧ s'.os = s₁.os ∧ AllBare s'.gens) s₁ := by
  have rv := vals_ints hi
  have hz : ns.length ≤ sizeLine := Nat.le_of_lt (lt_size (by omega))
  let u : HO := .frz { cls := .type "list", data := .seq vs.toArray } (.lst (ns.map V.int))
  let H : Hp := scrH K a u
  have noH : ∀ {b : Addr} {o : Obj}, s₁.heap.get? b = some o → o ≠ { cls := .type "list", data := .seq vs.toArray } → H b = none := fun {b o} e n => by
    cases q : H b with
    | none => rfl
    | some v =>
      obtain ⟨rfl, _, _⟩ := scrH_at q
      rw [ha] at e
      exact (n (Option.some.inj e).symm).elim
  have nsU : ∀ {b : Addr} {m : Str → Option Value}, s₁.heap.Ns b m → (hidT s₁.heap H).Ns b m := by
    rintro b m ⟨o, es, ep, e, d, r⟩
    refine ⟨o, es, ep, hidT_get e (noH e fun z => ?_), d, r⟩
    rw [z] at d
    exact nomatch (show Data.seq vs.toArray _ = Data.dict es ep from d)
  have kin : K.In (hidT s₁.heap H) := fun b o e => hidT_get (KX b o e) (by
    cases q : H b with
    | none => rfl
    | some v =>
      obtain ⟨rfl, z, _⟩ := scrH_at q
      rw [z] at e
      cases e)
  have md : Mod K mg (hidT s₁.heap H) := by
    obtain ⟨mc, l1, l2⟩ := hL
    exact ⟨kin, nsU hG, ⟨mb, nsU hB, hBB⟩, mc, nsU l1, l2⟩
  have hok : HOk P w H s₁.heap := fun b v z => by
    obtain ⟨rfl, _, rfl⟩ := scrH_at z
    exact ⟨ha, by rw [List.length_map]; exact hz, vs, _, rv, ha⟩
  have hS : SqL K H a (ns.map V.int) := by
    cases hk : K.lookup a with
    | none => exact .inl (.inr ⟨_, scrH_self hk⟩)
    | some o =>
      have e := KX a o hk
      rw [ha] at e
      have e := Option.some.inj e
      subst e
      exact .inr ⟨_, vs.toArray, _, hk, rfl, rfl, rfl, by rw [List.size_toArray, hi.length]; exact hz, by simpa using rv⟩
  obtain ⟨f, fd, ps, G, gm, _, bd⟩ := (F (hidT s₁.heap H)).ex
  rw [hm] at gm
  injection gm with gm
  injection gm with gm
  subst gm
  have sp0 := spm_law (C := C) (E := fun _ _ _ => False) hl hS
  have e0 : Env0 P w K mg (hidT s₁.heap H) callerA [] s₁ H := ⟨rfl, md, fun b o e => of_hidT e, Nat.le_of_eq (hidT_size _ _), trivial, fun b z => (nomatch z), hok, .of_eq hg⟩
  have b0 := bd s₁ [.ref a] KX (by have := G.len _ _ _ _ sp0; exact this)
  refine codeAny_mono (G.run callerA [] s₁ H ⟨[.ref a], []⟩ _ [.ref a] _ _ rfl hr e0 b0 (.cons rfl .nil) sp0) fun r s' h => ?_
  match r, h with
  | .ok (.ret y), ⟨v, H', os, bare, un, hok', rel, q⟩ =>
    have q : v = .bl true := q
    subst q
    obtain rfl : y = Value.bool true := rel
    refine ⟨rfl, .of_keep fun b o e => ?_, os, bare⟩
    cases z : H b with
    | none => exact un.keep b o e z (fun m => nomatch m) (fun m => nomatch m)
    | some v =>
      obtain ⟨rfl, _, rfl⟩ := scrH_at z
      rw [ha] at e
      have e := Option.some.inj e
      subst e
      exact (hok' _ _ (un.frzs _ _ _ z)).1
end NL
set_option maxHeartbeats 2000000
/-! What the Hook tells, as it is wanted. -/
namespace NL
open PySem PySem.Spec PyProof.Rows L2
section
variable {K : PySem.W.Frag}
theorem prB_ok {m q nm : Str} {params : Arguments} {body : List Stmt} {scope : Scope} (e : fnAt K (gtAt K m) = some (nm, q, params, .stmts body, scope, mainGlobals, [], builtinsNs)) (c : prB K m q = true) :
    PropOf K (He.ga K "Receiver") m (prAt K m) (gtAt K m) ∧ ∃ fd, FunD K nm q params body scope [] [] (gtAt K m) fd := by
  obtain ⟨c1, c⟩ := He.ba c
  obtain ⟨c2, c⟩ := He.ba c
  obtain ⟨c3, c⟩ := He.ba c
  obtain ⟨c4, c⟩ := He.ba c
  obtain ⟨c5, c6⟩ := He.ba c
  refine ⟨⟨He.eqO_ok c1, He.eqO_ok c2, of_decide_eq_true c3, ?_⟩, ?_⟩
  · unfold gtAt
    cases h : PySem.W.recIn K (prAt K m) "property" with
    | none => rw [h] at c4; cases c4
    | some l =>
      rw [h] at c4
      match l, c4 with
      | .ref g :: rest, _ => exact ⟨rest, rfl⟩
  · unfold fnAt at e
    unfold bareB at c5
    cases h : K.lookup (gtAt K m) with
    | none => rw [h] at c5; cases c5
    | some o =>
      obtain ⟨oc, od, dt, osl⟩ := o
      rw [h] at c5 e
      cases dt with
      | func z =>
        obtain ⟨d1, d2⟩ := He.ba c5
        obtain ⟨n1, n2, n3, n4, n5, n6, n7, n8, n9, n10, n11, n12, n13, n14, n15⟩ := z
        have e2 : (some (n1, n2, n3, n4, n5, n6, n7, n15) : He.FnW) = some (nm, q, params, .stmts body, scope, mainGlobals, [], builtinsNs) := e
        injection e2 with e2
        injection e2 with h1 e2
        injection e2 with h2 e2
        injection e2 with h3 e2
        injection e2 with h4 e2
        injection e2 with h5 e2
        injection e2 with h6 e2
        injection e2 with h7 h8
        subst h1 h2 h3 h4 h5 h6 h7 h8
        exact ⟨_, ⟨oc, od, n8, n9, n10, n11, n12, n13, n14, osl, rfl, h, d1, He.dflB_ok d2, .inl rfl⟩, c6⟩
      | _ => cases c5
theorem oeB_ok {U : Addr} (c : oeB K U = true) : ∃ nm q N bs bm sn sub ab col dd k0 k1 k2 k3 k5, K.lookup U = some (excClassObj nm q U N bs bm true sn sub ab col dd k0 k1 k2 k3 k5 "ValueError.__new__") ∧ PySem.HandSPX.refsVE bm = true := by
  unfold oeB at c
  cases h : K.lookup U with
  | none => rw [h] at c; cases c
  | some o =>
    obtain ⟨oc, od, dt, sl⟩ := o
    rw [h] at c
    cases oc with
    | type t =>
      cases dt with
      | cls cd =>
        obtain ⟨nm, bs, mro, N, q, hdct, sn, sub, ab, col, del⟩ := cd
        obtain ⟨c1, r1⟩ := He.ba c
        obtain ⟨c2, r2⟩ := He.ba r1
        obtain ⟨c3, r3⟩ := He.ba r2
        clear c r1 r2
        have e1 : t = "type" := of_decide_eq_true c1
        have e2 : hdct = true := c2
        have e3 : del = false := by
          have c3 : (!del) = true := c3
          cases del with
          | false => rfl
          | true => cases c3
        subst e1 e2 e3
        obtain ⟨sl⟩ := sl
        match mro, sl, r3 with
        | .ref c' :: bm, [k0, k1, k2, k3, some (.builtin n), k5], r3 =>
          obtain ⟨d1, d2⟩ := He.ba r3
          obtain ⟨d4, d3⟩ := He.ba d2
          have e4 : c' = U := of_decide_eq_true d1
          have e5 : n = "ValueError.__new__" := of_decide_eq_true d4
          subst e4 e5
          exact ⟨nm, q, N, bs, bm, sn, sub, ab, col, od, k0, k1, k2, k3, k5, rfl, d3⟩
      | _ => cases c
    | _ => cases c
theorem unB_ok {mg : Str → Option Value} {U nb : Addr} (gU : mg "Unsound" = some (.ref U)) (gN : mg "NestError" = some (.ref nb)) (c : unB K U nb = true) : Ucls K mg U (He.ma K U "__init__") nb := by
  obtain ⟨c1, c⟩ := He.ba c
  obtain ⟨c2, c⟩ := He.ba c
  obtain ⟨c3, c⟩ := He.ba c
  obtain ⟨c4, c⟩ := He.ba c
  obtain ⟨c5, c⟩ := He.ba c
  obtain ⟨c6, c⟩ := He.ba c
  obtain ⟨c7, c⟩ := He.ba c
  obtain ⟨c8, c⟩ := He.ba c
  obtain ⟨c9, c⟩ := He.ba c
  obtain ⟨c10, c⟩ := He.ba c
  obtain ⟨c11, c⟩ := He.ba c
  obtain ⟨c12, c⟩ := He.ba c
  refine ⟨gU, ⟨oeB_ok c1, He.eqO_ok c2, of_decide_eq_true c3, of_decide_eq_true c4, c5⟩, He.eqO_ok c6, of_decide_eq_true c7, He.eqO_ok c8, xfB_ok c9, of_decide_eq_true c10, gN, c11, He.eqO_ok c12, ?_⟩
  cases h : PySem.W.findCls K (.ref nb) (.type "type") "__init__" with
  | none => rw [h] at c; cases c
  | some r =>
    rw [h] at c
    cases r with
    | val v =>
      cases v with
      | builtin i =>
        have e : i = "ValueError.__init__" := of_decide_eq_true c
        rw [e]
      | _ => cases c
    | _ => cases c
end
section
variable {fa : List He.Fa} {fn : List He.DefD} {pr : List PrD} {ex : PySem.W.Frag → Bool} {K : PySem.W.Frag}
theorem sN_d (c : obN fa fn pr ex K = vaN fn pr) : He.SaysD fa fn K := congrArg (fun z : AlN => z.1) c
theorem sN_x (c : obN fa fn pr ex K = vaN fn pr) : ex K = true := (He.ba (show (ex K && pr.all fun d => prB K d.at_ d.qual) = true from congrArg (fun z : AlN => z.2.1) c)).1
theorem sN_p (c : obN fa fn pr ex K = vaN fn pr) (i : Nat) {d : PrD} (h : pr[i]? = some d := by rfl) : PropOf K (He.ga K "Receiver") d.at_ (prAt K d.at_) (gtAt K d.at_) ∧ ∃ fd, FunD K d.at_ d.qual (defArgs d.st) (defBody d.st) (defScope d.st) [] [] (gtAt K d.at_) fd := by
  have c2 := (He.ba (show (ex K && pr.all fun d => prB K d.at_ d.qual) = true from congrArg (fun z : AlN => z.2.1) c)).2
  have e : pr.map (fun d => fnAt K (gtAt K d.at_)) = pr.map PrD.val := congrArg (fun z : AlN => z.2.2) c
  have e2 : (pr.map fun d => fnAt K (gtAt K d.at_))[i]? = (pr.map PrD.val)[i]? := by rw [e]
  rw [List.getElem?_map, List.getElem?_map, h] at e2
  exact prB_ok (Option.some.inj e2) (List.all_eq_true.mp c2 d (List.mem_of_getElem? h))
end
end NL
set_option maxHeartbeats 2000000
/-! The facts; all promises joined. -/
namespace NL
open PySem PySem.Spec PyProof.Rows L2 StX
section
variable {P : Program} {w : World} {K : PySem.W.Frag} {mg : Str → Option Value} {base h : Heap} {C : Addr}
theorem bd1 {x q : Str} {st : Stmt} {f : Addr} {fd : FuncData} (F : FnP K x q st [] f fd) (hb : ∀ (kV doc pm : Value) (an : Option Addr) (cdv ct : Value) (v : Value), bindArgs (PySem.W.fnOf x q (defArgs st) (defBody st) (defScope st) .none kV doc pm an cdv ct) ⟨[v], []⟩ = pure [(("self" : Str), v)]) : Binds K fd ["self"] [] :=
  F.bindsN fun kV doc pm an cdv ct us hl => match us, hl with | [v], _ => hb kV doc pm an cdv ct v
theorem bd_undo {f : Addr} {fd : FuncData} (F : FnP K "undo" "Receiver.undo" (inC 12) [.int 1] f fd) : ∃ t : Tok, Binds K fd ["self", "many"] [.int 1 t] := by
  obtain ⟨ds, hv, hb⟩ := FunD.binds1 (ps := ["self", "many"]) F 1 0 (List.cons_ne_nil _ _) rfl (fun T kV doc pm an cdv ct us its h1 h2 => match us, h1, its, h2 with | [_], _, [_], _ => ⟨_, rfl, rfl⟩)
  match ds, hv with
  | [u], .cons ⟨t, e⟩ .nil =>
    subst e
    exact ⟨t, hb⟩
theorem ok_prop (T : Rcls K C) {x q fld : Str} {st : Stmt} {pa f : Addr} {fd : FuncData} (hp : PropOf K C x pa f) (F : FnP K x q st [] f fd) (S : FnScope ["self"] ["self"] (defScope st)) (nf : NoAttr K C fld)
    (hb : ∃ p1 p2 p3, defBody st = [.Return (some (.Attribute (.Name "self" p1) fld p2)) p3]) (bd : Binds K fd ["self"] []) : PropD P w K mg base C x fld := by
  obtain ⟨oc, od, dV, kV, doc, pm, an, cdv, ct, osl, rfl, lk, hcd, _, _⟩ := F.ex
  obtain ⟨p1, p2, p3, hb⟩ := hb
  exact ⟨pa, f, _, hp, fn_getter lk hcd S rfl hb T.cls nf, bd⟩
theorem facts (X : K.In h) (G : h.Ns mainGlobals mg) (c : obN fas fns prs exs K = vaN fns prs) (base : Heap) : CalG P w K mg base 10 "law" (SpM K (He.ga K "Receiver") PreLaw PostLaw) := by
  have d := sN_d c
  have ⟨_, F10⟩ : ∃ fd, FnP K "is_integer" "is_integer" (top 10) [] (He.ga K "is_integer") fd := d.def_ 0 (d := gD "is_integer" 10) rfl
  have h10 := He.glo_ok X G (d.fact 0 (f := .glo "is_integer") rfl)
  have ⟨_, F13⟩ : ∃ fd, FnP K "is_between" "is_between" (top 13) [] (He.ga K "is_between") fd := d.def_ 1 (d := gD "is_between" 13) rfl
  have h13 := He.glo_ok X G (d.fact 1 (f := .glo "is_between") rfl)
  have ⟨_, F14⟩ : ∃ fd, FnP K "need_prime" "need_prime" (top 14) [] (He.ga K "need_prime") fd := d.def_ 2 (d := gD "need_prime" 14) rfl
  have h14 := He.glo_ok X G (d.fact 2 (f := .glo "need_prime") rfl)
  have ⟨_, F15⟩ : ∃ fd, FnP K "is_sign" "is_sign" (top 15) [] (He.ga K "is_sign") fd := d.def_ 3 (d := gD "is_sign" 15) rfl
  have h15 := He.glo_ok X G (d.fact 3 (f := .glo "is_sign") rfl)
  have ⟨_, F16⟩ : ∃ fd, FnP K "are_signs" "are_signs" (top 16) [] (He.ga K "are_signs") fd := d.def_ 4 (d := gD "are_signs" 16) rfl
  have h16 := He.glo_ok X G (d.fact 4 (f := .glo "are_signs") rfl)
  have ⟨_, F17⟩ : ∃ fd, FnP K "rest_of" "rest_of" (top 17) [] (He.ga K "rest_of") fd := d.def_ 5 (d := gD "rest_of" 17) rfl
  have h17 := He.glo_ok X G (d.fact 5 (f := .glo "rest_of") rfl)
  have ⟨_, F18⟩ : ∃ fd, FnP K "value_in" "value_in" (top 18) [] (He.ga K "value_in") fd := d.def_ 6 (d := gD "value_in" 18) rfl
  have h18 := He.glo_ok X G (d.fact 6 (f := .glo "value_in") rfl)
  have ⟨_, F19⟩ : ∃ fd, FnP K "inverse_in" "inverse_in" (top 19) [] (He.ga K "inverse_in") fd := d.def_ 7 (d := gD "inverse_in" 19) rfl
  have h19 := He.glo_ok X G (d.fact 7 (f := .glo "inverse_in") rfl)
  have ⟨_, F20⟩ : ∃ fd, FnP K "times_root" "times_root" (top 20) [] (He.ga K "times_root") fd := d.def_ 8 (d := gD "times_root" 20) rfl
  have h20 := He.glo_ok X G (d.fact 8 (f := .glo "times_root") rfl)
  have ⟨_, F21⟩ : ∃ fd, FnP K "through_in" "through_in" (top 21) [] (He.ga K "through_in") fd := d.def_ 9 (d := gD "through_in" 21) rfl
  have h21 := He.glo_ok X G (d.fact 9 (f := .glo "through_in") rfl)
  have ⟨_, F26⟩ : ∃ fd, FnP K "is_laying" "is_laying" (top 26) [] (He.ga K "is_laying") fd := d.def_ 10 (d := gD "is_laying" 26) rfl
  have h26 := He.glo_ok X G (d.fact 10 (f := .glo "is_laying") rfl)
  have ⟨_, F27⟩ : ∃ fd, FnP K "need_laying" "need_laying" (top 27) [] (He.ga K "need_laying") fd := d.def_ 11 (d := gD "need_laying" 27) rfl
  have h27 := He.glo_ok X G (d.fact 11 (f := .glo "need_laying") rfl)
  have ⟨_, F28⟩ : ∃ fd, FnP K "profile_in" "profile_in" (top 28) [] (He.ga K "profile_in") fd := d.def_ 12 (d := gD "profile_in" 28) rfl
  have h28 := He.glo_ok X G (d.fact 12 (f := .glo "profile_in") rfl)
  have ⟨_, F29⟩ : ∃ fd, FnP K "needs_in" "needs_in" (top 29) [] (He.ga K "needs_in") fd := d.def_ 13 (d := gD "needs_in" 29) rfl
  have h29 := He.glo_ok X G (d.fact 13 (f := .glo "needs_in") rfl)
  have ⟨_, F31⟩ : ∃ fd, FnP K "points_at" "points_at" (top 31) [] (He.ga K "points_at") fd := d.def_ 14 (d := gD "points_at" 31) rfl
  have h31 := He.glo_ok X G (d.fact 14 (f := .glo "points_at") rfl)
  have ⟨_, F32⟩ : ∃ fd, FnP K "fits_at" "fits_at" (top 32) [] (He.ga K "fits_at") fd := d.def_ 15 (d := gD "fits_at" 32) rfl
  have h32 := He.glo_ok X G (d.fact 15 (f := .glo "fits_at") rfl)
  have ⟨_, F33⟩ : ∃ fd, FnP K "unfit_in" "unfit_in" (top 33) [] (He.ga K "unfit_in") fd := d.def_ 16 (d := gD "unfit_in" 33) rfl
  have h33 := He.glo_ok X G (d.fact 16 (f := .glo "unfit_in") rfl)
  have ⟨_, F34⟩ : ∃ fd, FnP K "read_in" "read_in" (top 34) [] (He.ga K "read_in") fd := d.def_ 17 (d := gD "read_in" 34) rfl
  have h34 := He.glo_ok X G (d.fact 17 (f := .glo "read_in") rfl)
  have ⟨_, F38⟩ : ∃ fd, FnP K "suspects_in" "suspects_in" (top 38) [] (He.ga K "suspects_in") fd := d.def_ 18 (d := gD "suspects_in" 38) rfl
  have h38 := He.glo_ok X G (d.fact 18 (f := .glo "suspects_in") rfl)
  have ⟨_, F41⟩ : ∃ fd, FnP K "_law_mixed" "_law_mixed" (top 41) [] (He.ga K "_law_mixed") fd := d.def_ 19 (d := gD "_law_mixed" 41) rfl
  have h41 := He.glo_ok X G (d.fact 19 (f := .glo "_law_mixed") rfl)
  have ⟨_, F42⟩ : ∃ fd, FnP K "_law_begin" "_law_begin" (top 42) [] (He.ga K "_law_begin") fd := d.def_ 20 (d := gD "_law_begin" 42) rfl
  have h42 := He.glo_ok X G (d.fact 20 (f := .glo "_law_begin") rfl)
  have ⟨_, F43⟩ : ∃ fd, FnP K "_law_draw" "_law_draw" (top 43) [] (He.ga K "_law_draw") fd := d.def_ 21 (d := gD "_law_draw" 43) rfl
  have h43 := He.glo_ok X G (d.fact 21 (f := .glo "_law_draw") rfl)
  have ⟨_, F44⟩ : ∃ fd, FnP K "_law_of" "_law_of" (top 44) [] (He.ga K "_law_of") fd := d.def_ 22 (d := gD "_law_of" 44) rfl
  have h44 := He.glo_ok X G (d.fact 22 (f := .glo "_law_of") rfl)
  have ⟨_, F45⟩ : ∃ fd, FnP K "_law_back" "_law_back" (top 45) [] (He.ga K "_law_back") fd := d.def_ 23 (d := gD "_law_back" 45) rfl
  have h45 := He.glo_ok X G (d.fact 23 (f := .glo "_law_back") rfl)
  have ⟨_, F46⟩ : ∃ fd, FnP K "_law_value" "_law_value" (top 46) [] (He.ga K "_law_value") fd := d.def_ 24 (d := gD "_law_value" 46) rfl
  have h46 := He.glo_ok X G (d.fact 24 (f := .glo "_law_value") rfl)
  have ⟨_, F47⟩ : ∃ fd, FnP K "_law_between" "_law_between" (top 47) [] (He.ga K "_law_between") fd := d.def_ 25 (d := gD "_law_between" 47) rfl
  have h47 := He.glo_ok X G (d.fact 25 (f := .glo "_law_between") rfl)
  have ⟨_, F48⟩ : ∃ fd, FnP K "_law_needs" "_law_needs" (top 48) [] (He.ga K "_law_needs") fd := d.def_ 26 (d := gD "_law_needs" 48) rfl
  have h48 := He.glo_ok X G (d.fact 26 (f := .glo "_law_needs") rfl)
  have ⟨_, F49⟩ : ∃ fd, FnP K "_law_stair" "_law_stair" (top 49) [] (He.ga K "_law_stair") fd := d.def_ 27 (d := gD "_law_stair" 49) rfl
  have h49 := He.glo_ok X G (d.fact 27 (f := .glo "_law_stair") rfl)
  have ⟨_, F50⟩ : ∃ fd, FnP K "_law_letters" "_law_letters" (top 50) [] (He.ga K "_law_letters") fd := d.def_ 28 (d := gD "_law_letters" 50) rfl
  have h50 := He.glo_ok X G (d.fact 28 (f := .glo "_law_letters") rfl)
  have ⟨_, F51⟩ : ∃ fd, FnP K "_law_prime" "_law_prime" (top 51) [] (He.ga K "_law_prime") fd := d.def_ 29 (d := gD "_law_prime" 51) rfl
  have h51 := He.glo_ok X G (d.fact 29 (f := .glo "_law_prime") rfl)
  have ⟨_, F52⟩ : ∃ fd, FnP K "_law_shares" "_law_shares" (top 52) [] (He.ga K "_law_shares") fd := d.def_ 30 (d := gD "_law_shares" 52) rfl
  have h52 := He.glo_ok X G (d.fact 30 (f := .glo "_law_shares") rfl)
  have ⟨_, F53⟩ : ∃ fd, FnP K "_law_message" "_law_message" (top 53) [] (He.ga K "_law_message") fd := d.def_ 31 (d := gD "_law_message" 53) rfl
  have h53 := He.glo_ok X G (d.fact 31 (f := .glo "_law_message") rfl)
  have ⟨_, F54⟩ : ∃ fd, FnP K "_law_unfit" "_law_unfit" (top 54) [] (He.ga K "_law_unfit") fd := d.def_ 32 (d := gD "_law_unfit" 54) rfl
  have h54 := He.glo_ok X G (d.fact 32 (f := .glo "_law_unfit") rfl)
  have ⟨_, F55⟩ : ∃ fd, FnP K "_law_suspects" "_law_suspects" (top 55) [] (He.ga K "_law_suspects") fd := d.def_ 33 (d := gD "_law_suspects" 55) rfl
  have h55 := He.glo_ok X G (d.fact 33 (f := .glo "_law_suspects") rfl)
  have ⟨_, F56⟩ : ∃ fd, FnP K "_law_read_right" "_law_read_right" (top 56) [] (He.ga K "_law_read_right") fd := d.def_ 34 (d := gD "_law_read_right" 56) rfl
  have h56 := He.glo_ok X G (d.fact 34 (f := .glo "_law_read_right") rfl)
  have ⟨_, F57⟩ : ∃ fd, FnP K "_law_heard" "_law_heard" (top 57) [] (He.ga K "_law_heard") fd := d.def_ 35 (d := gD "_law_heard" 57) rfl
  have h57 := He.glo_ok X G (d.fact 35 (f := .glo "_law_heard") rfl)
  have ⟨_, F58⟩ : ∃ fd, FnP K "_law_stands_right" "_law_stands_right" (top 58) [] (He.ga K "_law_stands_right") fd := d.def_ 36 (d := gD "_law_stands_right" 58) rfl
  have h58 := He.glo_ok X G (d.fact 36 (f := .glo "_law_stands_right") rfl)
  have ⟨_, F59⟩ : ∃ fd, FnP K "_law_altered" "_law_altered" (top 59) [] (He.ga K "_law_altered") fd := d.def_ 37 (d := gD "_law_altered" 59) rfl
  have h59 := He.glo_ok X G (d.fact 37 (f := .glo "_law_altered") rfl)
  have ⟨_, F60⟩ : ∃ fd, FnP K "_law_deed" "_law_deed" (top 60) [] (He.ga K "_law_deed") fd := d.def_ 38 (d := gD "_law_deed" 60) rfl
  have h60 := He.glo_ok X G (d.fact 38 (f := .glo "_law_deed") rfl)
  have ⟨_, F61⟩ : ∃ fd, FnP K "_law_only_one_right" "_law_only_one_right" (top 61) [] (He.ga K "_law_only_one_right") fd := d.def_ 39 (d := gD "_law_only_one_right" 61) rfl
  have h61 := He.glo_ok X G (d.fact 39 (f := .glo "_law_only_one_right") rfl)
  have ⟨_, F62⟩ : ∃ fd, FnP K "_law_hand_right" "_law_hand_right" (top 62) [] (He.ga K "_law_hand_right") fd := d.def_ 40 (d := gD "_law_hand_right" 62) rfl
  have h62 := He.glo_ok X G (d.fact 40 (f := .glo "_law_hand_right") rfl)
  have ⟨_, F63⟩ : ∃ fd, FnP K "law" "law" (top 63) [] (He.ga K "law") fd := d.def_ 41 (d := gD "law" 63) rfl
  have h63 := He.glo_ok X G (d.fact 41 (f := .glo "law") rfl)
  have ⟨_, M0⟩ : ∃ fd, FnP K "__init__" "Receiver.__init__" (inC 0) [] (He.ma K (He.ga K "Receiver") "__init__") fd := d.def_ 42 (d := mD "Receiver" "__init__" "Receiver.__init__" (inC 0) []) rfl
  have m0 := He.meth_ok (d.fact 70 (f := .meth "Receiver" "__init__") rfl)
  have ⟨_, M3⟩ : ∃ fd, FnP K "mail" "Receiver.mail" (inC 3) [] (He.ma K (He.ga K "Receiver") "mail") fd := d.def_ 43 (d := mD "Receiver" "mail" "Receiver.mail" (inC 3) []) rfl
  have m3 := He.meth_ok (d.fact 71 (f := .meth "Receiver" "mail") rfl)
  have ⟨_, M4⟩ : ∃ fd, FnP K "here" "Receiver.here" (inC 4) [] (He.ma K (He.ga K "Receiver") "here") fd := d.def_ 44 (d := mD "Receiver" "here" "Receiver.here" (inC 4) []) rfl
  have m4 := He.meth_ok (d.fact 72 (f := .meth "Receiver" "here") rfl)
  have ⟨_, M5⟩ : ∃ fd, FnP K "come" "Receiver.come" (inC 5) [] (He.ma K (He.ga K "Receiver") "come") fd := d.def_ 45 (d := mD "Receiver" "come" "Receiver.come" (inC 5) []) rfl
  have m5 := He.meth_ok (d.fact 73 (f := .meth "Receiver" "come") rfl)
  have ⟨_, M6⟩ : ∃ fd, FnP K "drop" "Receiver.drop" (inC 6) [] (He.ma K (He.ga K "Receiver") "drop") fd := d.def_ 46 (d := mD "Receiver" "drop" "Receiver.drop" (inC 6) []) rfl
  have m6 := He.meth_ok (d.fact 74 (f := .meth "Receiver" "drop") rfl)
  have ⟨_, M7⟩ : ∃ fd, FnP K "known_by" "Receiver.known_by" (inC 7) [] (He.ma K (He.ga K "Receiver") "known_by") fd := d.def_ 47 (d := mD "Receiver" "known_by" "Receiver.known_by" (inC 7) []) rfl
  have m7 := He.meth_ok (d.fact 75 (f := .meth "Receiver" "known_by") rfl)
  have ⟨_, M8⟩ : ∃ fd, FnP K "known" "Receiver.known" (inC 8) [] (He.ma K (He.ga K "Receiver") "known") fd := d.def_ 48 (d := mD "Receiver" "known" "Receiver.known" (inC 8) []) rfl
  have m8 := He.meth_ok (d.fact 76 (f := .meth "Receiver" "known") rfl)
  have ⟨_, M9⟩ : ∃ fd, FnP K "more" "Receiver.more" (inC 9) [] (He.ma K (He.ga K "Receiver") "more") fd := d.def_ 49 (d := mD "Receiver" "more" "Receiver.more" (inC 9) []) rfl
  have m9 := He.meth_ok (d.fact 77 (f := .meth "Receiver" "more") rfl)
  have ⟨_, M10⟩ : ∃ fd, FnP K "read" "Receiver.read" (inC 10) [] (He.ma K (He.ga K "Receiver") "read") fd := d.def_ 50 (d := mD "Receiver" "read" "Receiver.read" (inC 10) []) rfl
  have m10 := He.meth_ok (d.fact 78 (f := .meth "Receiver" "read") rfl)
  have ⟨_, M11⟩ : ∃ fd, FnP K "suspects" "Receiver.suspects" (inC 11) [] (He.ma K (He.ga K "Receiver") "suspects") fd := d.def_ 51 (d := mD "Receiver" "suspects" "Receiver.suspects" (inC 11) []) rfl
  have m11 := He.meth_ok (d.fact 79 (f := .meth "Receiver" "suspects") rfl)
  have ⟨_, M12⟩ : ∃ fd, FnP K "undo" "Receiver.undo" (inC 12) [.int 1] (He.ma K (He.ga K "Receiver") "undo") fd := d.def_ 52 (d := mD "Receiver" "undo" "Receiver.undo" (inC 12) [.int 1]) rfl
  have m12 := He.meth_ok (d.fact 80 (f := .meth "Receiver" "undo") rfl)
  have ⟨_, M15⟩ : ∃ fd, FnP K "__len__" "Receiver.__len__" (inC 15) [] (He.ma K (He.ga K "Receiver") "__len__") fd := d.def_ 53 (d := mD "Receiver" "__len__" "Receiver.__len__" (inC 15) []) rfl
  have m15 := He.meth_ok (d.fact 81 (f := .meth "Receiver" "__len__") rfl)
  have ⟨_, FU⟩ : ∃ fd, FnP K "__init__" "Unsound.__init__" (inU 0) [] (He.ma K (He.ga K "Unsound") "__init__") fd := d.def_ 54 (d := mD "Unsound" "__init__" "Unsound.__init__" (inU 0) []) rfl
  have gReceiver := He.glo_ok X G (d.fact 42 (f := .glo "Receiver") rfl)
  have gUnsound := He.glo_ok X G (d.fact 43 (f := .glo "Unsound") rfl)
  have gNestError := He.glo_ok X G (d.fact 44 (f := .glo "NestError") rfl)
  have gPRIMES := He.glo_ok X G (d.fact 45 (f := .glo "PRIMES") rfl)
  have T : Free mg := ⟨He.free_ok X G (d.fact 46 (f := .free "isinstance") rfl), He.free_ok X G (d.fact 47 (f := .free "int") rfl), He.free_ok X G (d.fact 48 (f := .free "bool") rfl), He.free_ok X G (d.fact 49 (f := .free "tuple") rfl), He.free_ok X G (d.fact 50 (f := .free "list") rfl), He.free_ok X G (d.fact 51 (f := .free "len") rfl), He.free_ok X G (d.fact 52 (f := .free "all") rfl), He.free_ok X G (d.fact 53 (f := .free "sum") rfl), He.free_ok X G (d.fact 54 (f := .free "range") rfl), He.free_ok X G (d.fact 55 (f := .free "enumerate") rfl), He.free_ok X G (d.fact 56 (f := .free "zip") rfl), He.free_ok X G (d.fact 57 (f := .free "sorted") rfl), He.free_ok X G (d.fact 58 (f := .free "dict") rfl), He.free_ok X G (d.fact 59 (f := .free "min") rfl), He.free_ok X G (d.fact 60 (f := .free "repr") rfl)⟩
  have T2 : Cst mg := ⟨He.int_ok X G (d.fact 61 (f := .int "MOST_LETTERS" 8) rfl), He.int_ok X G (d.fact 62 (f := .int "MOST_SHARE" 6) rfl), He.int_ok X G (d.fact 63 (f := .int "MOST_ROOM" 12) rfl)⟩
  have sC := He.str_ok X G (d.fact 64 (f := .str "COME" "come") rfl)
  have sD := He.str_ok X G (d.fact 65 (f := .str "DROP" "drop") rfl)
  have R : Rcls K (He.ga K "Receiver") := ⟨He.cls_ok (d.fact 66 (f := .cls "Receiver") rfl), He.noat_ok (d.fact 67 (f := .noat "Receiver" "own_prime") rfl), He.noat_ok (d.fact 68 (f := .noat "Receiver" "own_laying") rfl), He.noat_ok (d.fact 69 (f := .noat "Receiver" "own_past") rfl)⟩
  have mk := He.mkr_ok (d.fact 82 (f := .mkr "Receiver") rfl)
  obtain ⟨x1, x2⟩ := He.ba (sN_x c)
  have TU := unB_ok gUnsound gNestError x1
  have rP : ∀ Hi : Hp, Dp K Hi (.ref (He.ga K "PRIMES")) (dI NLM.PR) := fun Hi => .tup (He.tupB_ok x2 Hi) (ints_dps NLM.PR)
  obtain ⟨q1, _, G1⟩ := sN_p c 0 (d := ⟨"prime", "Receiver.prime", inC 1⟩) rfl
  obtain ⟨q2, _, G2⟩ := sN_p c 1 (d := ⟨"laying", "Receiver.laying", inC 2⟩) rfl
  have is_integer := ok_is_integer (P := P) (w := w) (base := base) (C := He.ga K "Receiver") T F10 h10
  have is_between := ok_is_between (P := P) (w := w) (base := base) (C := He.ga K "Receiver") is_integer F13 h13
  have need_prime := ok_need_prime (P := P) (w := w) (base := base) (C := He.ga K "Receiver") is_integer gPRIMES rP F14 h14
  have is_sign := ok_is_sign (P := P) (w := w) (base := base) (C := He.ga K "Receiver") is_between F15 h15
  have are_signs := ok_are_signs (P := P) (w := w) (base := base) (C := He.ga K "Receiver") T is_sign F16 h16
  have rest_of := ok_rest_of (P := P) (w := w) (base := base) (C := He.ga K "Receiver") T F17 h17
  have value_in := ok_value_in (P := P) (w := w) (base := base) (C := He.ga K "Receiver") rest_of F18 h18
  have inverse_in := ok_inverse_in (P := P) (w := w) (base := base) (C := He.ga K "Receiver") T rest_of F19 h19
  have times_root := ok_times_root (P := P) (w := w) (base := base) (C := He.ga K "Receiver") T rest_of F20 h20
  have through_in := ok_through_in (P := P) (w := w) (base := base) (C := He.ga K "Receiver") T rest_of times_root inverse_in F21 h21
  have is_laying := ok_is_laying (P := P) (w := w) (base := base) (C := He.ga K "Receiver") T T2 is_between F26 h26
  have need_laying := ok_need_laying (P := P) (w := w) (base := base) (C := He.ga K "Receiver") is_laying F27 h27
  have profile_in := ok_profile_in (P := P) (w := w) (base := base) (C := He.ga K "Receiver") T F28 h28
  have needs_in := ok_needs_in (P := P) (w := w) (base := base) (C := He.ga K "Receiver") T F29 h29
  have points_at := ok_points_at (P := P) (w := w) (base := base) (C := He.ga K "Receiver")  F31 h31
  have fits_at := ok_fits_at (P := P) (w := w) (base := base) (C := He.ga K "Receiver") T points_at through_in value_in F32 h32
  have unfit_in := ok_unfit_in (P := P) (w := w) (base := base) (C := He.ga K "Receiver") T needs_in fits_at F33 h33
  have read_in := ok_read_in (P := P) (w := w) (base := base) (C := He.ga K "Receiver") T needs_in points_at through_in F34 h34
  have suspects_in := ok_suspects_in (P := P) (w := w) (base := base) (C := He.ga K "Receiver") T unfit_in F38 h38
  have mixed := ok_mixed (P := P) (w := w) (base := base) (C := He.ga K "Receiver") T F41 h41
  have back := ok_back (P := P) (w := w) (base := base) (C := He.ga K "Receiver") T F45 h45
  have value := ok_value (P := P) (w := w) (base := base) (C := He.ga K "Receiver") T F46 h46
  have between := ok_between (P := P) (w := w) (base := base) (C := He.ga K "Receiver") T back F47 h47
  have needs := ok_needs (P := P) (w := w) (base := base) (C := He.ga K "Receiver") T F48 h48
  have stair := ok_stair (P := P) (w := w) (base := base) (C := He.ga K "Receiver") T F49 h49
  have letters := ok_letters (P := P) (w := w) (base := base) (C := He.ga K "Receiver") T needs value F50 h50
  have unfit := ok_unfit (P := P) (w := w) (base := base) (C := He.ga K "Receiver") T needs between F54 h54
  have suspects := ok_suspects (P := P) (w := w) (base := base) (C := He.ga K "Receiver") T unfit F55 h55
  have read_right := ok_read_right (P := P) (w := w) (base := base) (C := He.ga K "Receiver") T stair needs value F56 h56
  have c_mail := ok_mail (P := P) (w := w) (base := base) (mg := mg) R M3 m3
  have c_here := ok_here (P := P) (w := w) (base := base) (mg := mg) R c_mail M4 m4
  have c_known_by := ok_known_by (P := P) (w := w) (base := base) (mg := mg) R profile_in M7 m7
  have c_known := ok_known (P := P) (w := w) (base := base) (mg := mg) T R c_mail c_known_by M8 m8
  have c_more := ok_more (P := P) (w := w) (base := base) (mg := mg) T R c_mail c_known_by M9 m9
  have c_suspects := ok_suspectsM (P := P) (w := w) (base := base) (mg := mg) T R c_mail suspects_in M11 m11
  have c_len := ok_len (P := P) (w := w) (base := base) (mg := mg) T R M15 m15
  have fU := ok_U (P := P) (w := w) (base := base) TU FU
  have fR := ok_read (P := P) (w := w) (base := base) R TU fU (bd_U FU) c_mail unfit_in read_in M10
  have b10 := bd1 (x := "read") (q := "Receiver.read") (st := inC 10) M10 fun _ _ _ _ _ _ _ => rfl
  have heard := ok_heard (P := P) (w := w) (base := base) R TU fR m10 b10 F57 h57
  have pP : PropD P w K mg base (He.ga K "Receiver") "prime" "own_prime" := ok_prop R q1 G1 ⟨rfl, rfl, rfl, by decide +kernel, rfl, by decide +kernel, by decide +kernel⟩ R.np ⟨_, _, _, rfl⟩ (bd1 G1 fun _ _ _ _ _ _ _ => rfl)
  have pL : PropD P w K mg base (He.ga K "Receiver") "laying" "own_laying" := ok_prop R q2 G2 ⟨rfl, rfl, rfl, by decide +kernel, rfl, by decide +kernel, by decide +kernel⟩ R.nl ⟨_, _, _, rfl⟩ (bd1 G2 fun _ _ _ _ _ _ _ => rfl)
  have said : Said P w K mg base (He.ga K "Receiver") := ⟨T, R, pP, pL, c_mail, c_known, c_more, c_suspects, heard, stair, needs, unfit, suspects, read_right⟩
  have draw := ok_draw (P := P) (w := w) (base := base) (C := He.ga K "Receiver") T mixed F43 h43
  have of := ok_of (P := P) (w := w) (base := base) (C := He.ga K "Receiver") T draw F44 h44
  have prime := ok_prime (P := P) (w := w) (base := base) (C := He.ga K "Receiver") draw F51 h51
  have alt := ok_alt (P := P) (w := w) (base := base) (C := He.ga K "Receiver") T draw F59 h59
  have shares := ok_shares (P := P) (w := w) (base := base) (C := He.ga K "Receiver") T draw F52 h52
  have message := ok_message (P := P) (w := w) (base := base) (C := He.ga K "Receiver") T draw F53 h53
  have c_begin := ok_begin (P := P) (w := w) (base := base) (He.ga K "Receiver") T F42 h42
  have c_come := ok_come (P := P) (w := w) (base := base) (mg := mg) T R sC is_between are_signs c_mail c_here c_known M5 m5
  have b3 := bd1 (x := "mail") (q := "Receiver.mail") (st := inC 3) M3 fun _ _ _ _ _ _ _ => rfl
  have c_drop := ok_drop (P := P) (w := w) (base := base) T R sD is_integer m3 (ok_mailP R M3) b3 c_mail c_here M6 m6
  obtain ⟨_, bu⟩ := bd_undo M12
  have c_undo := ok_undo (P := P) (w := w) (base := base) T R is_integer M12 m12 bu
  have mkr : MkR P w K mg base (He.ga K "Receiver") := ⟨_, _, mk, ok_init R need_prime need_laying M0, gReceiver, M0.bindsN fun _ _ _ _ _ _ us hl => match us, hl with | [_, _, _], _ => rfl⟩
  have stands := ok_stands (P := P) (w := w) (base := base) (C := He.ga K "Receiver") said F58 h58
  have only := ok_only (P := P) (w := w) (base := base) (C := He.ga K "Receiver") said F61 h61
  have deed := ok_deed (P := P) (w := w) (base := base) ⟨T, R, draw, of, alt, c_come, c_drop, c_undo, c_known⟩ F60 h60
  have hand := ok_hand (P := P) (w := w) (base := base) said mkr c_come F62 h62
  exact ok_law ⟨said, mkr, c_begin, hand, deed, prime, shares, message, letters, stands, only, c_len⟩ F63 h63
end
end NL
set_option maxHeartbeats 0
open PySem PySem.W PySem.Calls PyProof.Rows
theorem PySem.Challenge.cw_nestletters_k28_whole_receivers_holds : PySem.Challenge.rw_nestletters_k28_whole_receivers.Holds := by
  w_on; o_law
  refine HandSHeadRun.head_any (r := NL.RW) (q := PySem.W.view NL.RW.prog [63]) (H := NL.hkL) (ob := NL.obL) (M := 20000) (loose := NL.loose) (d := HandSHeadRun.topDef NL.RW.prog 63) (kwd := []) (NL.obT_eq 5 NL.fas NL.fns NL.prs NL.exs)
    (by kernel_rfl) (fun s => by kernel_rfl) NL.run (by kernel_rfl) (by kernel_rfl) (by kernel_rfl) (by rfl) (by first | assumption | decide +kernel) (by decide +kernel) ⟨rfl, rfl, rfl, rfl, rfl, by decide +kernel⟩ ?hw ?hc
  case hw => w_witness2
  case hc =>
    refine Att.attach_call (l := PySem.Challenge.rw_nestletters_k28_whole_receivers) (n := 63) rfl (by kernel_rfl) fun w s₀ s₁ mg mb fa o pm cd doc a vs ns G Y ho hd hcd hmg hobj hints hlen hg => ?_
    obtain ⟨K, KX, c⟩ := Y
    have hm : mg ("law" : PySem.Str) = some (.ref fa) := by
      have e : (HandSHeadRun.topDef NL.RW.prog 63).name = ("law" : PySem.Str) := by kernel_rfl
      rw [← e]
      exact hmg
    exact NL.call_g (k := 10) KX G.T.g G.T.b G.T.builtins G.T.nolimit hg hobj hints hlen ⟨rfl, by decide, by decide⟩ hm (NL.facts KX G.T.g c)
