import PyProof.Rows.All
import Wide.All
import OpenK.AllK
import Wide.FinOn
import PyProof.EqAt
import PyProof.EqKinds
import PyProof.TupleCall
import HandS.ForMost
import HandS.Conv
import HandS.TupAny
import HandS.List
import HandS.Strs
import KE.KeyNested
import KE.KDictKeyed
import HandS.Lambda
import HandS.Iter
import HandS.Defaults
import HandS.Style
import HandS.ForExc
import KE.DataEq
import KE.DataFind
import KE.SortData
import HandS.Wide
import HandS.IsInst
import KE.DataAny
import PyProof.ReprRoads
import HandS.Text
import HandS.Dict
import KE.KDictDisplayH
import HandS.SetKeys
import HandS.SetFor
import PyProof.ListCopy
import PyProof.Rows.SeqMore
import PyProof.Rows.ListMulArg
import KE.KDictSum
import KE.KDictWalk
import HandS.More
import HandS.Zip
import PyProof.WalksEnum
import PyProof.Draws
import PyProof.EnumMake
import PyProof.WalksMore
import PyProof.TupleIter
import HandS.Zip0
import KE.GoesEnumKw
import PyProof.Rows.CallKwBuiltin
import HandS.SetBool
import PyProof.SetRoads
import HandS.Head0
import HandS.Head1
import HandS.Head2
import HandS.HeadEnd
import HandS.HeadHook1
import HandS.HeadHook2
import HandS.HeadHook3
import HandS.HeadHook4
import PyProof.ListStr
import PyProof.TupleOfSeq
import KE.KDictCopyH
import KE.LtSeq
import KE.LtData
import HandS.DictTup
import KE.GoesMore
import KE.KDictZip
import KE.KUnpackStar
import HandS.RaiseMore
import HandS.TupMul
import HandS.TupLen
import HandS.Flt
import HandS.DictComp
import HandS.ListItems
import KE.KDictItemsList
import PyProof.DictCopy
import PyProof.DictUpdate
import KE.DataMinMax
import PyProof.Rows.RowBridgeK
import KE.DataCmp
import HandS.Exc
import HandS.TryOnly
import HandS.ExcInit
import KE.KExcInit
import HandS.ExcIs
import KE.KExcIs
import HandS.EndTab
import PyProof.NeKinds
import HandS.ExcField
import KE.KDflt
import HandS.Replace
import HandS.Deep
import HandS.TupSets
import HandS.DictEq
import PySem.Challenge.RW_slotsure_k05_whole_groups_hang_together
set_option Elab.async false
set_option linter.all false
set_option maxRecDepth 100000
set_option maxHeartbeats 0
namespace L2.Z
open PySem PySem.Spec PyProof.Rows
def adV : Value → List Addr
  | .ref a => [a]
  | _ => []
def codeA (o : Obj) : List Addr := match o.data with
  | .func fd => adV fd.code ++ adV fd.defaults
  | _ => []
def clsA (o : Obj) : List Addr := match o.data with
  | .cls cd => [cd.ns]
  | _ => []
def dicA (o : Obj) : List Addr := match o.data with
  | .dict es _ => es.toList.flatMap fun e => adV e.val
  | _ => []
def onA (g : Addr → Option Obj) (f : Obj → List Addr) (a : Addr) : List Addr := match g a with
  | some o => f o
  | none => []
def isClsA (g : Addr → Option Obj) (a : Addr) : Bool := match g a with
  | some o => (match o.data with
    | .cls _ => true
    | _ => false)
  | none => false
def asY4 (cs ns rest is : List Addr) (g : Addr → Option Obj) : List Addr := mainGlobals :: (cs ++ (ns ++ (is ++ (is.flatMap (onA g codeA) ++ (rest ++ rest.flatMap (onA g codeA))))))
def asY3 (cs ns rest : List Addr) (g : Addr → Option Obj) : List Addr := asY4 cs ns rest (ns.flatMap (onA g dicA)) g
def asY2 (cs rest : List Addr) (g : Addr → Option Obj) : List Addr := asY3 cs (cs.flatMap (onA g clsA)) rest g
def asY1 (top : List Addr) (g : Addr → Option Obj) : List Addr := asY2 (top.filter (isClsA g)) (top.filter fun a => !isClsA g a) g
def asY (g : Addr → Option Obj) : List Addr := asY1 (onA g dicA mainGlobals) g
section
variable (fa : List He.Fa) (fn : List He.DefD) (ts : List He.Tab) (tf : List He.Defn) (ex : PySem.W.Frag → Bool)
def obsK (g : Addr → Option Obj) (K : PySem.W.Frag) : He.AlX := (He.obsT fa fn ts K, ex K && He.tabsB g tf K)
def obsY (g : Addr → Option Obj) : He.AlX := obsK fa fn ts tf ex g (He.frT g (asY g))
variable {fa fn ts tf ex}
theorem saysK_of {w : World} {h : Heap} {as : List Addr} (e : obsK fa fn ts tf ex h.get? (He.frT h.get? as) = He.valX fn ts w) : He.SaysX fa fn ts tf ex w h (He.frT h.get? as) := by
  generalize hK : He.frT h.get? as = K at e
  have e1 : He.obsT fa fn ts K = He.valT fn ts w := congrArg Prod.fst e
  obtain ⟨m1, m2⟩ := He.ba (show (ex K && He.tabsB h.get? tf K) = true from congrArg Prod.snd e)
  have each : ∀ q ∈ tf, PySem.W.codeHdIn K (He.cT K q).1 (He.cT K q).2 = true ∧ ∃ o, h.get? (He.cT K q).2 = some o ∧ He.emptyTab o = true := fun q hq => by
    obtain ⟨a1, a2⟩ := He.ba (List.all_eq_true.mp m2 q hq)
    cases z : h.get? (He.cT K q).2 with
    | some o => rw [z] at a2; exact ⟨a1, o, rfl, a2⟩
    | none => rw [z] at a2; cases a2
  refine { t := e1, more := m1, hd := fun q hq => (each q hq).1, out := fun q hq => ?_, empty := fun q hq => ?_ }
  · obtain ⟨_, o, z, y⟩ := each q hq
    have := He.frT_none (as := as) z y
    rwa [hK] at this
  · obtain ⟨_, o, z, y⟩ := each q hq
    rw [z, He.emptyTab_eq y]
variable (fa fn ts tf ex)
def hookY : PySem.W.Hook where
  α := He.AlX
  obs s := obsY fa fn ts tf ex s.heap.get?
  val w := He.valX fn ts w
  says w h := ∃ K : PySem.W.Frag, K.In h ∧ He.SaysX fa fn ts tf ex w h K
  of _ _ e := ⟨_, He.frT_in, saysK_of e⟩
  keeps _ _ _ x k := by
    obtain ⟨K, hK, c⟩ := x
    exact ⟨K, hK.keeps k, { t := c.t, more := c.more, hd := c.hd, out := c.out, empty := fun q hq => k _ _ (c.empty q hq) }⟩
variable {fa fn ts tf ex}
theorem obsY_eq {g : Addr → Option Obj} {s : Shared} (h : ∀ a, g a = s.heap.get? a) : obsY fa fn ts tf ex g = (hookY fa fn ts tf ex).obs s := by
  obtain rfl : g = s.heap.get? := funext h
  rfl
end
end L2.Z
namespace L2.Z
open PySem PySem.Spec PyProof.Rows
def ndB (K : PySem.W.Frag) (a : Addr) : Bool := match K.lookup a with
  | some o => o.dict.isNone
  | none => false

end L2.Z
namespace L2.Z.D
open PySem PySem.Spec PyProof.Rows
def top (i : Nat) : Stmt := PySem.Challenge.pw_slotsure_k05_whole_groups_hang_together.main.body.getD i (.Pass ⟨0, 0, 0, 0⟩)

def dfn (n : Str) (i : Nat) : He.DefD := ⟨(n, none), n, n, defArgs (top i), defBody (top i), defScope (top i), [], []⟩
def hfn : List He.DefD := ([dfn "is_whole" 8, dfn "is_name" 9, dfn "own_tuple" 16, dfn "own_rising" 17, dfn "own_slot" 18, dfn "own_order" 19, dfn "own_move" 20, dfn "own_box" 21, dfn "own_gear" 22, dfn "need_gear" 23, dfn "own_box_of" 24, dfn "own_slots" 25, dfn "moved" 26, dfn "own_group" 27, dfn "slots" 28] : List He.DefD) ++ ([dfn "group" 29, dfn "_law_start" 31, dfn "_law_draw" 32, dfn "_law_pick" 33, dfn "_law_names" 34, dfn "_law_order" 35, dfn "_law_gear" 36, dfn "_law_back" 37, dfn "_law_all" 38, dfn "_law_things" 39, dfn "_law_moved_right" 40, dfn "_law_after" 41, dfn "_law_closed" 42, dfn "_law_with" 43, dfn "_law_box_right" 44] : List He.DefD) ++ ([dfn "law" 45] : List He.DefD)
def hfa : List He.Fa := ([.glo "is_whole", .glo "is_name", .glo "own_tuple", .glo "own_rising", .glo "own_slot", .glo "own_order", .glo "own_move", .glo "own_box", .glo "own_gear", .glo "need_gear", .glo "own_box_of", .glo "own_slots", .glo "moved", .glo "own_group", .glo "slots"] : List He.Fa) ++ ([.glo "group", .glo "_law_start", .glo "_law_draw", .glo "_law_pick", .glo "_law_names", .glo "_law_order", .glo "_law_gear", .glo "_law_back", .glo "_law_all", .glo "_law_things", .glo "_law_moved_right", .glo "_law_after", .glo "_law_closed", .glo "_law_with", .glo "_law_box_right"] : List He.Fa) ++ ([.glo "law", .glo "SIDES", .free "all", .free "bool", .free "enumerate", .free "int", .free "isinstance", .free "len", .free "list", .free "min", .free "range", .free "repr", .free "set", .free "sorted", .free "str"] : List He.Fa) ++ ([.free "tuple", .free "zip", .int "MOST_BOXES" 8, .int "MOST_LETTERS" 8, .int "MOST_MOVES" 3, .int "MOST_SLOTS" 4, .int "MOST_SPACES" 3, .str "LETTERS" "abcdefghijklmnopqrstuvwxyz"] : List He.Fa)
def hts : List He.Tab := []
def hex (K : PySem.W.Frag) : Bool := (He.tupB K "SIDES" [.str "down", .str "up"] && (ndB K (He.ga K "SIDES") && true))
abbrev RR : PySem.W.OpenRow := PySem.W.OpenLaw.row PySem.Challenge.rw_slotsure_k05_whole_groups_hang_together
def htf : List He.Defn := []
abbrev hk : PySem.W.Hook := L2.Z.hookY hfa hfn hts htf hex
def ob (s : PySem.W.SharedT) : He.AlX := L2.Z.obsY hfa hfn hts htf hex (HandSHeadRun.getT s)
theorem ob_eq (s : PySem.W.SharedT) : ob s = hk.obs s.abs := L2.Z.obsY_eq (HandSHeadRun.getT_eq s)
def loose : List Str := (["Refused", "Barred", "BadGear", "NoBox", "MOST_LETTERS", "LETTERS", "is_whole", "is_name", "MOST_SPACES", "MOST_BOXES", "MOST_SLOTS", "MOST_MOVES", "SIDES", "own_tuple", "own_rising"] : List Str) ++ (["own_slot", "own_order", "own_move", "own_box", "own_gear", "need_gear", "own_box_of", "own_slots", "moved", "own_group", "slots", "group", "_law_start", "_law_draw", "_law_pick"] : List Str) ++ (["_law_names", "_law_order", "_law_gear", "_law_back", "_law_all", "_law_things", "_law_moved_right", "_law_after", "_law_closed", "_law_with", "_law_box_right"] : List Str)
theorem run (w : World) : HandSHeadRun.RunEq RR (PySem.W.view RR.prog [45]) hk ob 12000 loose w := fun os => by kernel_rfl
end L2.Z.D
set_option Elab.async false
set_option linter.all false
set_option maxRecDepth 100000
set_option maxHeartbeats 2000000
namespace L2.Z
open PySem PySem.Spec PyProof.Rows
/-- a fresh tuple's object -/
def newTup (its : List Value) : Obj := { cls := .type "tuple", data := .seq its.toArray }
theorem okNew {P : Program} {w : World} {H : Hp} {h : Heap} {p : Addr} {its : List Value} {xs : List V} (e : h.get? p = some (newTup its)) (r : Vals xs its) (z : xs.length ≤ sizeLine) : ObjOk P w H h p (.frz (newTup its) (.tup xs)) := ⟨e, z, its, r, newTup its, e, rfl, _, rfl⟩
/-- what a rule that makes a tuple of xs asks -/
def MkT (H : Hp) (xs : List V) (Q : VK) : Prop := ∀ p o, H p = none → Obj.dict o = none → Q (.ref p) (upd H p (.frz o (.tup xs)))
section
variable {X : Cx} {e : Expr} {es : List Expr} {te : TE} {t : TA} {pos : Pos} {pins : List (Addr × Obj)} {s : Shared} {σ : St} {H : Hp} {Q : VK}
theorem mkT_push {its : List Value} {xs : List V} {tk : Nat} (I : Inv X pins σ H s) (r : Vals xs its) (z : xs.length ≤ sizeLine) (q : MkT H xs Q) : EP X pins σ Q (.ref s.heap.objs.size) { s with heap := s.heap.push (newTup its), toks := tk } :=
  ⟨.ref s.heap.objs.size, upd H s.heap.objs.size (.frz (newTup its) (.tup xs)), I.laid (t' := tk) (fun b u e => Heap.get?_push_of_some _ e) (Nat.le_refl _) (okNew (Heap.get?_push_size _ rfl) r z), rfl, q _ _ (I.hok.fresh (Nat.le_refl _)) rfl⟩
def tTupZ (t : TA) : TE := fun σ H Q => t σ H fun xs H1 => xs.length ≤ sizeLine ∧ MkT H1 xs Q
theorem pe_tupZ {x1} (h : PA X es t) : PE X (.Tuple es x1 pos) (tTupZ t) := by
  refine ⟨fun pins s σ H Q I hq => ?_⟩
  refine wpAny_Tuple_spliced (thn (h.run pos pins s σ H _ I hq) fun us s1 h1 => ?_)
  obtain ⟨xs, H1, I1, r, z, q⟩ := h1
  exact ⟨r.length ▸ z, mkT_push (tk := s1.toks) I1 r z q⟩
def rCatZ (K : PySem.W.Frag) : R2 := fun x y H Q => ∃ a b xs ys, x = .ref a ∧ y = .ref b ∧ SqT K H a xs ∧ SqT K H b ys ∧ xs.length + ys.length ≤ sizeLine ∧
  (xs = [] → Q (.ref b) H) ∧ (xs ≠ [] → ys = [] → Q (.ref a) H) ∧ MkT H (xs ++ ys) Q
theorem op_catZ : OpR X (binaryOp .Add) (rCatZ X.K) := by
  intro pins s σ H x y v u Q I rx ry h
  obtain ⟨a, b, xs, ys, rfl, rfl, ha, hb, hz, q0, q1, q2⟩ := h
  by_cases hx : xs = []
  · exact op_catA pins s σ H _ _ v u Q I rx ry ⟨a, b, xs, ys, rfl, rfl, ha, hb, hz, q0, q1, fun n _ => absurd hx n⟩
  · by_cases hy : ys = []
    · exact op_catA pins s σ H _ _ v u Q I rx ry ⟨a, b, xs, ys, rfl, rfl, ha, hb, hz, q0, q1, fun _ n => absurd hy n⟩
    · cases rx
      cases ry
      have ⟨its, r1, p1, _⟩ := I.tuple ha
      have ⟨its2, r2, p2, _⟩ := I.tuple hb
      refine HT.cat_tup p1 p2 (fun z => hx (r1.nil_iff.mp z)) (fun z => absurd (r2.nil_iff.mp z) hy) (fun _ => mkT_push (tk := s.toks) I (r1.append r2) ?_ q2) ?_
      · rw [List.length_append]; exact hz
      · have l1 := r1.length; have l2 := r2.length; omega
def rSlZ (K : PySem.W.Frag) : V → Option Int → Option Int → Hp → VK → Prop := fun x lo hi H Q => ∃ a xs, x = .ref a ∧ SqT K H a xs ∧
  (HT.sIx xs.length 0 lo = 0 ∧ HT.sIx xs.length xs.length hi = xs.length → Q (.ref a) H) ∧ MkT H (cutV xs lo hi) Q
theorem sl_tupZ : SlR X (rSlZ X.K) := by
  intro pins s σ H x v vl vu lo hi sl Q I rx hs pl pu h
  obtain ⟨a, xs, rfl, hx, q1, q2⟩ := h
  by_cases hw : HT.sIx xs.length 0 lo = 0 ∧ HT.sIx xs.length xs.length hi = xs.length
  · exact sl_tupA pins s σ H _ v vl vu lo hi sl Q I rx hs pl pu ⟨a, xs, rfl, hx, q1, fun n => absurd hw n⟩
  · cases rx
    have ⟨its, r, ht, hz⟩ := I.tuple hx
    have hl : its.toArray.size = xs.length := by rw [List.size_toArray, r.length]
    refine ⟨"tuple", _, PyProof.Rows.slot_tuple_getitem.lookup, ht.typeIs, HT.getItem_tuple_cut ht hs pl pu (hl ▸ hw) ?_ (hl ▸ hz)⟩
    rw [hl]
    exact mkT_push (tk := s.toks) I ((r.drop _).take _) (Nat.le_trans (cutV_length xs lo hi) hz) q2
theorem call_tupZ : CallR X (.type "tuple") (fun xs H Q => ∃ p ys, xs = [.ref p] ∧ ((SqL X.K H p ys ∧ MkT H ys Q) ∨ (SqT X.K H p ys ∧ Q (.ref p) H))) := by
  intro pins s σ H xs us Q I r h
  obtain ⟨p, ys, rfl, h⟩ := h
  rcases h with ⟨hq, q⟩ | h
  · obtain ⟨u, rfl, rx⟩ := vals1 r
    cases rx
    obtain ⟨its, rv, pl, hz⟩ := I.list hq
    have hl := rv.length
    refine call_tuple_list pl.isList (fun hh kp => ?_) (by rw [List.size_toArray]; omega)
    exact mkT_push (s := { s with heap := hh }) (tk := s.toks) (I.kept (t' := s.toks) kp) rv hz q
  · exact call_tuple_of pins s σ H _ us Q I r ⟨p, ys, rfl, .inr h⟩
section
variable {tr : St → Hp → (Int → Int → Hp → Prop) → Prop} {p : Pos}
def tTupRgZ (tr : St → Hp → (Int → Int → Hp → Prop) → Prop) : TE := fun σ H Q => tr σ H fun a b H1 => RgOk a b ∧ MkT H1 (rgV a b) Q
theorem pe_tupRgZ (hc : X.calm = true) (hg : Gl X "tuple") (hm : X.mg "tuple" = none) (he : PRg X e tr) (na : starEach [e] X.env = (false, eval e X.env) :: starEach [] X.env := by rfl) : PE X (.Call (.Name "tuple" p) [e] [] pos) (tTupRgZ tr) := by
  refine ⟨fun pins s σ H Q I h => ?_⟩
  refine Call_ (ld_blt I hg hm boot_tuple (PyProof.Rows.callWith_type1 (args_cons (thn (he pins s σ H _ I h) fun x s1 hr => args_nil ?_) na) na))
  obtain ⟨r, a, b, t, u, v, H1, ex, hr, I1, ⟨b1, b2, b3, b4, b5⟩, q⟩ := hr
  subst ex
  refine call_tuple_range (n := (b - a).toNat) (I1.ok.hd hc) hr (small_one b1 b2 b3 b4) (rangeSize_nat a b) b5 fun hh tk acc hk hi => ?_
  have o := mkT_push (s := { s1 with heap := hh, toks := tk }) (tk := tk) (its := acc.toList) (I1.kept hk) (vals_rg hi) (by rw [rgV_length, sizeLine_eq]; omega) q
  unfold newTup at o
  rw [Array.toArray_toList] at o
  exact o
end
/-- that thing has no dict -/
def ND (K : PySem.W.Frag) (H : Hp) (a : Addr) : Prop := (∃ o u, Obj.dict o = none ∧ H a = some (.frz o u)) ∨ ∃ o, K.lookup a = some o ∧ Obj.dict o = none
def tBMT (K : PySem.W.Frag) (r : V → List V → Hp → VK → Prop) (to : TE) (t : TA) : TE := fun σ H Q => to σ H fun x H1 => (∃ p xs, x = .ref p ∧ SqT K H1 p xs ∧ ND K H1 p) ∧ t σ H1 fun xs H2 => r x xs H2 Q
theorem pe_bmT {o : Expr} {to : TE} {id : String} {name : Str} {apos cpos : Pos} {r : V → List V → Hp → VK → Prop} (slot : Slot "tuple" name id) (hty : typeOf (.builtin id) = pure (.type "method_descriptor")) (hm : MtR X id r) (ho : PE X o to) (ha : PA X [e] t)
    (hbase : attributeBase o name X.env (eval o X.env) = eval o X.env := by rfl)
    (hfew : ((backTo cpos (starEach (e :: []) X.env)).all (fun x => !x.1) && (backToKw cpos (keywordEach [] X.env)).all (fun x => x.1.isSome)
      && decide ((e :: ([] : List Expr)).length + ([] : List Keyword).length + (if ([] : List Keyword).isEmpty then 0 else 1) < 30)) = true := by rfl)
    (hline : (apos.endLine == cpos.line) = true := by rfl) (hs : starEach (e :: []) X.env = (false, eval e X.env) :: starEach [] X.env := by rfl) (hplain : (backTo cpos (starEach [] X.env)).any (·.1) = false := by rfl) :
    PE X (.Call (.Attribute o name apos) [e] [] cpos) (tBMT X.K r to t) := by
  refine ⟨fun pins s σ H Q I h => ?_⟩
  refine wpAny_Call_method_late hbase hfew hline rfl (thn (ho.run pins s σ H _ I h) fun v s1 h1 => ?_)
  obtain ⟨x, H1, I1, r1, ⟨p, xs, rfl, hq, nd⟩, q1⟩ := h1
  obtain rfl : v = Value.ref p := r1
  obtain ⟨its, _, pl, _⟩ := I1.tuple hq
  have nd' : ∀ a, Value.ref p = .ref a → ∃ ob, s1.heap.get? a = some ob ∧ ob.dict = none := fun a e => by
    cases e
    rcases nd with ⟨ob, u, hd, ea⟩ | ⟨ob, hk, hd⟩
    · obtain ⟨e, _⟩ := I1.hok p _ ea
      exact ⟨ob, e, hd⟩
    · exact ⟨ob, I1.kIn p ob hk, hd⟩
  refine ⟨"tuple", id, PySem.F.plainAttrs_tuple, slot, hty, pl.typeIs, nd', ?_⟩
  have hA := ha.run cpos pins s1 σ H1 _ I1 q1
  rw [hs] at hA ⊢
  refine Calls.callWith_builtin (by show (false || (backTo cpos (starEach [] X.env)).any (·.1)) = false; rw [hplain] <;> rfl) (Calls.evalArgs_plain (thn hA fun us s2 h2 => ?_))
  obtain ⟨vs, H2, I2, r2, q2⟩ := h2
  exact hm pins s2 σ H2 (.ref p) vs _ us Q I2 rfl r2 q2
/-- where a number stands first -/
def posI (j : Int) : List Int → Option Nat
  | [] => none
  | i :: r => if i = j then some 0 else (posI j r).map (· + 1)
theorem posI_at {j : Int} : ∀ {ns : List Int} {k : Nat}, posI j ns = some k → ns[k]? = some j ∧ ∀ m, m < k → ns[m]? ≠ some j
  | [], k, h => by cases h
  | i :: r, k, h => by
    unfold posI at h
    split at h
    · rename_i e
      cases h
      exact ⟨by simp [e], fun m hm => absurd hm (Nat.not_lt_zero _)⟩
    · rename_i e
      cases q : posI j r with
      | none => rw [q] at h; cases h
      | some k' =>
        rw [q] at h
        cases h
        obtain ⟨h1, h2⟩ := posI_at q
        refine ⟨by simpa using h1, fun m hm => ?_⟩
        cases m with
        | zero => simpa using e
        | succ m => simpa using h2 m (Nat.lt_of_succ_lt_succ hm)
theorem flat_ints (ns : List Int) : (ns.map V.int).all flatV = true := by
  rw [List.all_map]
  exact List.all_eq_true.mpr fun _ _ => rfl
theorem mt_posI : MtR X "tuple.index" (fun x xs H Q => ∃ p ns j k, x = .ref p ∧ xs = [.int j] ∧ SqT X.K H p (ns.map V.int) ∧ posI j ns = some k ∧ Q (.int (k : Nat)) H) := by
  intro pins s σ H x xs v us Q I rx rs h
  obtain ⟨p, ns, j, k, rfl, rfl, hq, hk, q⟩ := h
  obtain rfl : v = Value.ref p := rx
  obtain ⟨u, rfl, t, rfl⟩ := vals1 rs
  obtain ⟨its, r, pl, hz⟩ := I.tuple hq
  obtain ⟨⟨cls, dd, dt, sl⟩, ho, hc, n, hd⟩ := pl
  obtain rfl : cls = _ := hc
  obtain rfl : dt = _ := hd
  obtain ⟨hit, hno⟩ := posI_at hk
  have ll : its.toArray.size = ns.length := by rw [List.size_toArray, ← r.length, List.length_map]
  have hj : k < its.toArray.size := by rw [ll]; exact (List.getElem?_eq_some_iff.mp hit).1
  have at' : ∀ (m : Nat) (hm : m < its.toArray.size), ∃ y t', ns[m]? = some y ∧ its.toArray[m] = Value.int y t' := fun m hm => by
    have hm' : m < ns.length := ll ▸ hm
    obtain ⟨w, hw, t', hw'⟩ := r.get (i := m) (x := .int ns[m]) (by simp [hm'])
    have e := (List.getElem?_eq_some_iff.mp hw).2
    exact ⟨ns[m], t', List.getElem?_eq_getElem hm', by rw [← hw', ← e]; simp⟩
  refine call_meets PySem.F.slot_tuple_index ⟨_, ho, rfl⟩ PySem.F.entry_tuple_index (PySem.F.args_tuple_index_2 _ _) (TI.tuple_indexAt p its.toArray n dd sl (.int j t) (eqU (.int j)) k hj ?_ ?_)
    ⟨ho, fun w hw => mem_eqAt (x := .int j) ⟨t, rfl⟩ rfl r (flat_ints ns) w (by simpa using hw), ⟨.int (k : Nat), H, I.tok _, ⟨_, rfl⟩, q⟩⟩
  · obtain ⟨y, t', h1, h2⟩ := at' k hj
    rw [hit] at h1
    cases h1
    rw [h2]
    show (j == j) = true
    exact beq_self_eq_true j
  · intro m hm hmj
    obtain ⟨y, t', h1, h2⟩ := at' m hm
    rw [h2]
    show (y == j) = false
    exact beq_eq_false_iff_ne.mpr fun e => hno m hmj (e ▸ h1)
end
end L2.Z
set_option Elab.async false
set_option linter.all false
set_option maxRecDepth 100000
set_option maxHeartbeats 2000000
namespace L2.Z
open PySem PySem.Spec PyProof.Rows
/-- a value as a tree; loc: a thing of the store; pr: a tuple that a walk makes (only taken apart) -/
inductive T where
  | non | bl (b : Bool) | int (i : Int) | str (s : Str) | tup (ts : List T) | lst (ts : List T) | dct (ks vs : List T) | dcn (ks vs : List T) | loc (n : Nat) | pr (ts : List T)
/-- a mutable thing's content; dicL: a dict of lists of the frame's own; dicM: such a one with tuple keys; dead: given away; tab: where a def keeps the code of its lambdas -/
inductive O where
  | lst (ts : List T) | dic (ks vs : List T) | dicL (ks : List T) (ns : List Nat) | dicM (ks : List T) (ns : List Nat) | dead | tab (x : Str)
/-- the addresses of mutable things: all, those of the frame's own, those of the store, in their order -/
structure G where
  mu : List Addr
  lam : List Addr
  rho : List Addr
/-- what a name holds: nothing, a value, a mutable thing of the frame's own, what a relation tells, a caught exception by its class's name -/
inductive Slot where
  | un | val (t : T) | own (n : Nat) | is (φ : G → Hp → Option (Option V) → Prop) | exn (c : Str) | exv (c f : Str) (t : T) | fnv (z : Str)
structure S where
  env : List Slot
  lo : List O
  st : List O
inductive R (α : Type) where
  | ok (a : α) (s : S) | exc (e : T) (s : S) | no
def R.bind {α β : Type} : R α → (α → S → R β) → R β
  | .ok a s, f => f a s
  | .exc e s, _ => .exc e s
  | .no, _ => .no
abbrev Ev := S → R T
abbrev Ea := S → R (List T)
/-- the written part, the program, the world -/
structure Kx where
  K : PySem.W.Frag
  P : Program
  w : World
/-- what may be written, tables of code too -/
def Mut : Option HO → Prop
  | some (.tbl _) => True
  | o => L2.Mut o
mutual
/-- a key of a dict: whole numbers, texts, tuples of such -/
def nk0 : T → Option NestedKey
  | .int i => some (.num i)
  | .str z => some (.text z)
  | .tup ts => (nks ts).map .tup
  | _ => none
def nks : List T → Option (List NestedKey)
  | [] => some []
  | t :: ts => (nk0 t).bind fun k => (nks ts).map fun r => k :: r
end
def nkey (t : T) : Option NestedKey := (nk0 t).bind fun k => if k.depth ≤ 8 then some k else none
/-- the dict at a, whose keys are such tuples: its keys, their addresses, its values -/
def dN (P : Program) (w : World) (a : Addr) (kvs : List (NestedKey × Addr × V)) : HO := .ext fun h => kvs.length ≤ sizeLine ∧ (a == sysModules) = false ∧
  ∃ xs : List (NestedKey × Addr × Value), Paired (fun (p : NestedKey × Addr × V) (q : NestedKey × Addr × Value) => p.1 = q.1 ∧ p.2.1 = q.2.1 ∧ RelV p.2.2 q.2.2) kvs xs ∧
    ∃ o es ep, h.get? a = some o ∧ o.ExactDict ∧ o.data = .dict es ep ∧ es.toList = xs.map (entryOfKey (nestedKind P w)) ∧ (xs.map (·.1)).Nodup
/-- what is known of such a dict; the empty one is of any kind -/
def DN (P : Program) (w : World) (H : Hp) (a : Addr) (kvs : List (NestedKey × Addr × V)) : Prop := H a = some (dN P w a kvs) ∨ (kvs = [] ∧ H a = some (.dK []))
/-- .. locked -/
def DNF (P : Program) (w : World) (H : Hp) (a : Addr) (o : Obj) (kvs : List (NestedKey × Addr × V)) : Prop := H a = some (.frz o (dN P w a kvs)) ∨ (kvs = [] ∧ H a = some (.frz o (.dK [])))
section
variable (K : Kx)
/-- a list that never changes: the script, a list of the written part -/
def Fz (H : Hp) (a : Addr) (vs : List V) : Prop := (∃ o, H a = some (.frz o (.lst vs))) ∨
  ∃ (o : Obj) (its : Array Value) (n : Nat), K.K.lookup a = some o ∧ o.cls = .type "list" ∧ o.dict = none ∧ o.data = .seq its n ∧ its.size ≤ sizeLine ∧ Vals vs its.toList
mutual
inductive Rep (g : G) (H : Hp) : V → T → Prop
  | non : Rep g H .non .non
  | bl (b) : Rep g H (.bl b) (.bl b)
  | int (i) : Rep g H (.int i) (.int i)
  | str (s) : Rep g H (.str s) (.str s)
  | tup {a vs ts} : SqT K.K H a vs → ND K.K H a → RepL g H vs ts → Rep g H (.ref a) (.tup ts)
  | pr {a vs ts} : SqT K.K H a vs → RepL g H vs ts → Rep g H (.ref a) (.pr ts)
  | lst {a vs ts} : H a = some (.lst vs) → a ∉ g.mu → RepL g H vs ts → Rep g H (.ref a) (.lst ts)
  | lstF {a vs ts} : Fz K H a vs → RepL g H vs ts → Rep g H (.ref a) (.lst ts)
  | dct {a o} {kvs : List (Key × V)} {ks ts} : H a = some (.frz o (.dK kvs)) → RepL g H (kvs.map fun p => kV p.1) ks → RepL g H (kvs.map (·.2)) ts → Rep g H (.ref a) (.dct ks ts)
  | dcn {a o} {kvs : List (NestedKey × Addr × V)} {ks ts} : DNF K.P K.w H a o kvs → RepL g H (kvs.map fun p => .ref p.2.1) ks → RepL g H (kvs.map (·.2.2)) ts → ks.map nkey = kvs.map (fun p => some p.1) → Rep g H (.ref a) (.dcn ks ts)
  | loc {a n} : g.rho[n]? = some a → Rep g H (.ref a) (.loc n)
inductive RepL (g : G) (H : Hp) : List V → List T → Prop
  | nil : RepL g H [] []
  | cons {v t vs ts} : Rep g H v t → RepL g H vs ts → RepL g H (v :: vs) (t :: ts)
end
/-- what stands at a mutable thing's address -/
inductive ORep (g : G) (H : Hp) (a : Addr) : O → Prop
  | lst {vs ts} : H a = some (.lst vs) → RepL K g H vs ts → ORep g H a (.lst ts)
  | dic {kvs : List (Key × V)} {ks ts} : H a = some (.dK kvs) → RepL K g H (kvs.map fun p => kV p.1) ks → RepL K g H (kvs.map (·.2)) ts → ORep g H a (.dic ks ts)
  | dicN {kvs : List (NestedKey × Addr × V)} {ks ts} : H a = some (dN K.P K.w a kvs) → RepL K g H (kvs.map fun p => .ref p.2.1) ks → RepL K g H (kvs.map (·.2.2)) ts → ks.map nkey = kvs.map (fun p => some p.1) → kvs ≠ [] → ORep g H a (.dic ks ts)
  | dicL {kvs : List (Key × V)} {ks} {ns : List Nat} : H a = some (.dK kvs) → RepL K g H (kvs.map fun p => kV p.1) ks → kvs.length = ns.length → (∀ (j : Nat) (p : Key × V) (n : Nat), kvs[j]? = some p → ns[j]? = some n → ∃ a', p.2 = .ref a' ∧ g.lam[n]? = some a') → ORep g H a (.dicL ks ns)
  | dicM {kvs : List (NestedKey × Addr × V)} {ks} {ns : List Nat} : H a = some (dN K.P K.w a kvs) → RepL K g H (kvs.map fun p => .ref p.2.1) ks → ks.map nkey = kvs.map (fun p => some p.1) → kvs.length = ns.length → (∀ (j : Nat) (p : NestedKey × Addr × V) (n : Nat), kvs[j]? = some p → ns[j]? = some n → ∃ a', p.2.2 = .ref a' ∧ g.lam[n]? = some a') → ORep g H a (.dicM ks ns)
  | tab {x q : Str} {c : Addr} {ps : Array Value} : PySem.W.tabIn K.K x = some (c, a) → q = x ++ ".<locals>.<lambda>" → H a = some (.tbl ps) → PySem.TriplesOk ps.toList → (∀ (pos : Pos) (cv : Value), codeAmong pos ps.toList = some cv → ∃ c, cv = .ref c ∧ H c = some (LamX.CodeO c q) ∧ c ∉ g.mu) → ORep g H a (.tab x)
/-- what stands at an address of the store, without the frame's own -/
def O.free : O → Bool
  | .dicL _ _ => false
  | .dicM _ _ => false
  | .dead => false
  | _ => true
structure SRep (g : G) (H : Hp) (a : Addr) (o : O) : Prop where
  rep : ORep K g H a o
  free : o.free = true
/-- a step: what is not mutable stays, new mutable things have new addresses -/
structure Step (g : G) (H : Hp) (g' : G) (H' : Hp) : Prop where
  new : ∀ a ∈ g'.mu, a ∉ g.mu → H a = none
  rho : ∃ r, g'.rho = g.rho ++ r
  lam : ∃ r, g'.lam = g.lam ++ r
  keep : ∀ a o, H a = some o → a ∉ g.mu → H' a = some o
  tups : ∀ a xs, H a = some (.tup xs) → H' a = some (.tup xs)
  frzs : ∀ a o u, H a = some (.frz o u) → H' a = some (.frz o u)
/-- all that stood stands -/
def Ext (H H' : Hp) : Prop := ∀ a o, H a = some o → H' a = some o
/-- a caught exception of the class that bears the name c -/
def ExcAt (K : PySem.W.Frag) (g : G) (H : Hp) (a : Addr) (c : Str) : Prop := ∃ (C : Addr) (d : Option Addr), PySem.W.nsIn K mainGlobals c = some (some (.ref C)) ∧
  H a = some (.ext fun h => ∃ oe, h.get? a = some oe ∧ L2.Zc (.ref C) d oe ∧ ∃ vs, oe.data = .fields vs) ∧ ∀ dd, d = some dd → dd ∉ g.mu ∧ ∃ fs, H dd = some (.xd fs)
/-- .. whose field f holds t -/
def ExcVt (g : G) (H : Hp) (a : Addr) (c f : Str) (t : T) : Prop := ∃ (C dd : Addr) (fs : List (Str × V)) (v : V), PySem.W.nsIn K.K mainGlobals c = some (some (.ref C)) ∧
  H a = some (.ext fun h => ∃ oe, h.get? a = some oe ∧ L2.Zc (.ref C) (some dd) oe ∧ ∃ vs, oe.data = .fields vs) ∧ dd ∉ g.mu ∧ H dd = some (.xd fs) ∧ fs.lookup f = some v ∧ Rep K g H v t
def SlotRep (g : G) (H : Hp) (x : Option (Option V)) : Slot → Prop
  | .un => True
  | .val t => ∃ v, x = some (some v) ∧ Rep K g H v t
  | .own n => ∃ a, x = some (some (.ref a)) ∧ g.lam[n]? = some a
  | .is φ => ∀ g' H', Step g H g' H' → φ g' H' x
  | .exn c => ∃ a, x = some (some (.ref a)) ∧ a ∉ g.mu ∧ ExcAt K.K g H a c
  | .exv c f t => ∃ a, x = some (some (.ref a)) ∧ a ∉ g.mu ∧ ExcVt K g H a c f t
  | .fnv z => ∃ a, x = some (some (.ref a)) ∧ PySem.W.nsIn K.K mainGlobals z = some (some (.ref a))
/-- where a def began -/
structure B where
  g : G
  H : Hp
  /-- things that stand aside and must not be touched (a list that a comprehension fills) -/
  hid : List (Addr × HO) := []
structure Sim (b : B) (g : G) (s : S) (σ : St) (H : Hp) : Prop where
  muk : ∀ a ∈ g.mu, Mut (H a)
  rmu : ∀ a ∈ g.rho, a ∈ g.mu
  rnd : g.rho.Nodup
  stl : s.st.length = g.rho.length
  store : ∀ (n : Nat) (a : Addr) (o : O), g.rho[n]? = some a → s.st[n]? = some o → SRep K g H a o
  lnd : g.lam.Nodup
  lol : s.lo.length = g.lam.length
  loc : ∀ (n : Nat) (a : Addr) (o : O), g.lam[n]? = some a → s.lo[n]? = some o → o ≠ .dead → ORep K g H a o ∧ a ∈ g.mu
  lof : ∀ a ∈ g.lam, a ∉ g.rho ∧ b.H a = none ∧ H a ≠ none
  len : s.env.length = σ.length
  slots : ∀ (i : Nat) (e : Slot), s.env[i]? = some e → SlotRep K g H σ[i]? e
  mu0 : ∀ a ∈ b.g.mu, a ∈ g.mu ∧ b.H a ≠ none
  bstep : Step b.g b.H g H
  frame : ∀ a o, b.H a = some o → a ∉ g.rho → H a = some o
  rnew : ∀ a ∈ g.rho, a ∉ b.g.rho → b.H a = none
  hidn : ∀ p ∈ b.hid, H p.1 = some p.2 ∧ p.1 ∈ g.mu ∧ p.1 ∉ g.rho ∧ p.1 ∉ g.lam
end
section
variable {K : Kx} {g g' g1 g2 : G} {H H0 H' H1 H2 : Hp} {σ : St} {s : S}
theorem Ext.refl (H : Hp) : Ext H H := fun _ _ h => h
theorem Ext.trans (a : Ext H H1) (b : Ext H1 H2) : Ext H H2 := fun c o h => b c o (a c o h)
theorem Ext.new {p : Addr} {o : HO} (h : H p = none) : Ext H (upd H p o) := fun a o' e => by
  rw [upd_ne (ne_of_none e h)]; exact e
theorem Step.ext (e : Ext H H') : Step g H g H' :=
  ⟨fun _ h n => absurd h n, ⟨[], by simp⟩, ⟨[], by simp⟩, fun a o h _ => e a o h, fun a xs h => e a _ h, fun a o u h => e a _ h⟩
theorem Step.refl : Step g H g H := Step.ext (Ext.refl H)
theorem Step.trans (a : Step g H g1 H1) (b : Step g1 H1 g2 H2) : Step g H g2 H2 where
  new := fun x h n => by
    by_cases q : x ∈ g1.mu
    · exact a.new x q n
    · cases r : H x with
      | none => rfl
      | some o =>
        have z := a.keep x o r n
        rw [b.new x h q] at z; cases z
  rho := by
    obtain ⟨r, e⟩ := a.rho
    obtain ⟨r', e'⟩ := b.rho
    exact ⟨r ++ r', by rw [e', e, List.append_assoc]⟩
  lam := by
    obtain ⟨r, e⟩ := a.lam
    obtain ⟨r', e'⟩ := b.lam
    exact ⟨r ++ r', by rw [e', e, List.append_assoc]⟩
  keep := fun x o h n => by
    have z := a.keep x o h n
    refine b.keep x o z fun q => ?_
    have := a.new x q n
    rw [h] at this; cases this
  tups := fun x xs h => b.tups x xs (a.tups x xs h)
  frzs := fun x o u h => b.frzs x o u (a.frzs x o u h)
theorem Fz.step (t : Step g H g' H') {a : Addr} {vs : List V} (h : Fz K H a vs) : Fz K H' a vs := by
  rcases h with ⟨o, h⟩ | h
  · exact .inl ⟨o, t.frzs _ _ _ h⟩
  · exact .inr h
theorem sqT_step (t : Step g H g' H') {a : Addr} {vs : List V} (h : SqT K.K H a vs) : SqT K.K H' a vs := by
  rcases h with (h | ⟨o, h⟩) | h
  · exact .inl (.inl (t.tups _ _ h))
  · exact .inl (.inr ⟨o, t.frzs _ _ _ h⟩)
  · exact .inr h
theorem nd_step (t : Step g H g' H') {a : Addr} (h : ND K.K H a) : ND K.K H' a := by
  rcases h with ⟨o, u, hd, e⟩ | h
  · exact .inl ⟨o, u, hd, t.frzs _ _ _ e⟩
  · exact .inr h
mutual
theorem Rep.step (t : Step g H g' H') : ∀ {v : V} {x : T}, Rep K g H v x → Rep K g' H' v x
  | _, _, .non => .non
  | _, _, .bl b => .bl b
  | _, _, .int i => .int i
  | _, _, .str z => .str z
  | _, _, .tup h n r => .tup (sqT_step t h) (nd_step t n) (RepL.step t r)
  | _, _, .pr h r => .pr (sqT_step t h) (RepL.step t r)
  | _, _, .lst h n r => .lst (t.keep _ _ h n) (fun q => by have := t.new _ q n; rw [h] at this; cases this) (RepL.step t r)
  | _, _, .lstF h r => .lstF (h.step t) (RepL.step t r)
  | _, _, .dct h r r' => .dct (t.frzs _ _ _ h) (RepL.step t r) (RepL.step t r')
  | _, _, .dcn h r r' e => .dcn (h.imp (t.frzs _ _ _) fun q => ⟨q.1, t.frzs _ _ _ q.2⟩) (RepL.step t r) (RepL.step t r') e
  | _, _, .loc h => .loc (by
      obtain ⟨r, e⟩ := t.rho
      rw [e, List.getElem?_append_left (by
        have := (List.getElem?_eq_some_iff.mp h).1
        exact this)]
      exact h)
theorem RepL.step (t : Step g H g' H') : ∀ {v : List V} {x : List T}, RepL K g H v x → RepL K g' H' v x
  | _, _, .nil => .nil
  | _, _, .cons a b => .cons (Rep.step t a) (RepL.step t b)
end
theorem lam_at (t : Step g H g' H') {n : Nat} {a : Addr} (h : g.lam[n]? = some a) : g'.lam[n]? = some a := by
  obtain ⟨r, e⟩ := t.lam
  rw [e, List.getElem?_append_left (List.getElem?_eq_some_iff.mp h).1]
  exact h
theorem rho_at (t : Step g H g' H') {n : Nat} {a : Addr} (h : g.rho[n]? = some a) : g'.rho[n]? = some a := by
  obtain ⟨r, e⟩ := t.rho
  rw [e, List.getElem?_append_left (List.getElem?_eq_some_iff.mp h).1]
  exact h
theorem ORep.step (t : Step g H g' H') {a : Addr} {o : O} (e : H' a = H a) (r : ORep K g H a o) : ORep K g' H' a o := by
  cases r with
  | lst h r => exact .lst (e.trans h) (r.step t)
  | dic h r r' => exact .dic (e.trans h) (r.step t) (r'.step t)
  | dicN h r r' q n => exact .dicN (e.trans h) (r.step t) (r'.step t) q n
  | dicL h r l q =>
    refine .dicL (e.trans h) (r.step t) l fun j p n h1 h2 => ?_
    obtain ⟨a', q1, q2⟩ := q j p n h1 h2
    exact ⟨a', q1, lam_at t q2⟩
  | dicM h r ee l q =>
    refine .dicM (e.trans h) (r.step t) ee l fun j p n h1 h2 => ?_
    obtain ⟨a', q1, q2⟩ := q j p n h1 h2
    exact ⟨a', q1, lam_at t q2⟩
  | tab h1 h2 h3 h4 h5 =>
    refine .tab h1 h2 (e.trans h3) h4 fun pos cv hc => ?_
    obtain ⟨c, q1, q2, q3⟩ := h5 pos cv hc
    exact ⟨c, q1, t.keep _ _ q2 q3, fun z => by have := t.new _ z q3; rw [q2] at this; cases this⟩
theorem SRep.step (t : Step g H g' H') {a : Addr} {o : O} (e : H' a = H a) (r : SRep K g H a o) : SRep K g' H' a o := ⟨r.rep.step t e, r.free⟩
theorem SlotRep.step (t : Step g H g' H') {x : Option (Option V)} {e : Slot} (r : SlotRep K g H x e) : SlotRep K g' H' x e := by
  cases e with
  | un => trivial
  | val y =>
    obtain ⟨v, h1, h2⟩ := r
    exact ⟨v, h1, h2.step t⟩
  | own n =>
    obtain ⟨a, h1, h2⟩ := r
    exact ⟨a, h1, lam_at t h2⟩
  | is φ => exact fun g' H' t' => r g' H' (t.trans t')
  | exn c =>
    obtain ⟨a, h1, h2, C, d, h3, h4, h5⟩ := r
    refine ⟨a, h1, fun z => ?_, C, d, h3, t.keep _ _ h4 h2, fun dd e => ?_⟩
    · have := t.new _ z h2
      rw [h4] at this
      cases this
    · obtain ⟨q1, fs, q2⟩ := h5 dd e
      refine ⟨fun z => ?_, fs, t.keep _ _ q2 q1⟩
      have := t.new _ z q1
      rw [q2] at this
      cases this
  | exv c f y =>
    obtain ⟨a, h1, h2, C, dd, fs, v, h3, h4, h5, h6, h7, h8⟩ := r
    refine ⟨a, h1, fun z => ?_, C, dd, fs, v, h3, t.keep _ _ h4 h2, fun z => ?_, t.keep _ _ h6 h5, h7, h8.step t⟩
    · have := t.new _ z h2
      rw [h4] at this
      cases this
    · have := t.new _ z h5
      rw [h6] at this
      cases this
  | fnv z => exact r
theorem RepL.length : ∀ {vs : List V} {ts : List T}, RepL K g H vs ts → vs.length = ts.length
  | _, _, .nil => rfl
  | _, _, .cons _ t => congrArg (· + 1) t.length
theorem RepL.append : ∀ {vs ws : List V} {ts us : List T}, RepL K g H vs ts → RepL K g H ws us → RepL K g H (vs ++ ws) (ts ++ us)
  | _, _, _, _, .nil, s => s
  | _, _, _, _, .cons r t, s => .cons r (t.append s)
theorem RepL.get : ∀ {vs : List V} {ts : List T} {i : Nat} {t : T}, RepL K g H vs ts → ts[i]? = some t → ∃ v, vs[i]? = some v ∧ Rep K g H v t
  | _, _, _, _, .nil, e => by simp at e
  | _, _, 0, _, .cons r _, e => by simp at e; subst e; exact ⟨_, rfl, r⟩
  | _, _, i + 1, _, .cons _ t, e => by
    obtain ⟨v, h1, h2⟩ := t.get (i := i) (by simpa using e)
    exact ⟨v, by simpa using h1, h2⟩
theorem RepL.get' : ∀ {vs : List V} {ts : List T} {i : Nat} {v : V}, RepL K g H vs ts → vs[i]? = some v → ∃ t, ts[i]? = some t ∧ Rep K g H v t
  | _, _, _, _, .nil, e => by simp at e
  | _, _, 0, _, .cons r _, e => by simp at e; subst e; exact ⟨_, rfl, r⟩
  | _, _, i + 1, _, .cons _ t, e => by
    obtain ⟨v, h1, h2⟩ := t.get' (i := i) (by simpa using e)
    exact ⟨v, by simpa using h1, h2⟩
theorem mut_ext (e : Ext H H') {a : Addr} (q : Mut (H a)) : H' a = H a := by
  cases r : H a with
  | none => rw [r] at q; exact q.elim
  | some o => exact e a o r
theorem ext_ne (e : Ext H H') {a : Addr} (q : H a ≠ none) : H' a ≠ none := by
  cases r : H a with
  | none => exact absurd r q
  | some o => rw [e a o r]; simp
variable {b : B}
/-- THE CHANGE of a state: what stands at mutable addresses told anew; the rest is carried along -/
theorem Sim.to {s' : S} {σ' : St} (m : Sim K b g s σ H) (t : Step g H g' H') (muk : ∀ a ∈ g'.mu, Mut (H' a)) (rmu : ∀ a ∈ g'.rho, a ∈ g'.mu) (rnd : g'.rho.Nodup) (stl : s'.st.length = g'.rho.length) (store : ∀ (n : Nat) (a : Addr) (o : O), g'.rho[n]? = some a → s'.st[n]? = some o → SRep K g' H' a o)
    (lnd : g'.lam.Nodup) (lol : s'.lo.length = g'.lam.length) (loc : ∀ (n : Nat) (a : Addr) (o : O), g'.lam[n]? = some a → s'.lo[n]? = some o → o ≠ .dead → ORep K g' H' a o ∧ a ∈ g'.mu) (lof : ∀ a ∈ g'.lam, a ∉ g'.rho ∧ b.H a = none ∧ H' a ≠ none) (len : s'.env.length = σ'.length)
    (slots : ∀ (i : Nat) (e : Slot), s'.env[i]? = some e → SlotRep K g' H' σ'[i]? e) (mu0 : ∀ a ∈ g.mu, b.H a ≠ none → a ∈ g'.mu) (keep : ∀ a o, H a = some o → b.H a ≠ none → a ∉ g'.rho → H' a = some o) (rnew : ∀ a ∈ g'.rho, a ∉ g.rho → H a = none) (hid : ∀ p ∈ b.hid, H' p.1 = some p.2 ∧ p.1 ∈ g'.mu ∧ p.1 ∉ g'.rho ∧ p.1 ∉ g'.lam) : Sim K b g' s' σ' H' := by
  have old : ∀ a o, b.H a = some o → a ∉ g'.rho → a ∉ g.rho := fun a o e n h => n (by
    obtain ⟨r, e'⟩ := t.rho
    rw [e']; exact List.mem_append_left _ h)
  refine ⟨muk, rmu, rnd, stl, store, lnd, lol, loc, lof, len, slots, fun a h => ⟨mu0 a (m.mu0 a h).1 (m.mu0 a h).2, (m.mu0 a h).2⟩, m.bstep.trans t, fun a o e n => keep a o (m.frame a o e (old a o e n)) (by rw [e]; simp) n, fun a h n => ?_, hid⟩
  by_cases z : a ∈ g.rho
  · exact m.rnew a z n
  · cases q : b.H a with
    | none => rfl
    | some o =>
      have := m.frame a o q z
      rw [rnew a h z] at this; cases this
/-- a new address is none of ours -/
theorem Sim.fresh (m : Sim K b g s σ H) {p : Addr} (hp : H p = none) : p ∉ g.mu ∧ p ∉ g.rho ∧ p ∉ g.lam ∧ b.H p = none ∧ ∀ q ∈ b.hid, q.1 ≠ p := by
  have n : p ∉ g.mu := fun h => by
    have := m.muk p h
    rw [hp] at this; exact this
  have n2 : p ∉ g.rho := fun h => n (m.rmu _ h)
  refine ⟨n, n2, fun h => (m.lof p h).2.2 hp, ?_, fun q h z => n (z ▸ (m.hidn q h).2.1)⟩
  cases q : b.H p with
  | none => rfl
  | some o' =>
    have := m.frame p o' q n2
    rw [hp] at this; cases this
/-- the heap grows alone -/
theorem Sim.ext (m : Sim K b g s σ H) (e : Ext H H') : Sim K b g s σ H' := by
  have t : Step g H g H' := Step.ext e
  have at_ : ∀ a ∈ g.mu, H' a = H a := fun a h => mut_ext e (m.muk a h)
  exact m.to t (fun a h => by rw [at_ a h]; exact m.muk a h) m.rmu m.rnd m.stl (fun n a o h1 h2 => (m.store n a o h1 h2).step t (at_ a (m.rmu a (List.mem_of_getElem? h1)))) m.lnd m.lol
    (fun n a o h1 h2 h3 => ⟨(m.loc n a o h1 h2 h3).1.step t (at_ a (m.loc n a o h1 h2 h3).2), (m.loc n a o h1 h2 h3).2⟩) (fun a h => ⟨(m.lof a h).1, (m.lof a h).2.1, ext_ne e (m.lof a h).2.2⟩) m.len (fun i x h => (m.slots i x h).step t)
    (fun a h _ => h) (fun a o h _ _ => e a o h) (fun a h n => absurd h n) fun p h => ⟨e _ _ (m.hidn p h).1, (m.hidn p h).2⟩
theorem Sim.val (m : Sim K b g s σ H) {i : Nat} {t : T} (h : s.env[i]? = some (.val t)) : ∃ v, σ[i]? = some (some v) ∧ Rep K g H v t := m.slots i _ h
theorem getElem?_set_cases {α : Type} {l : List α} {i j : Nat} {x y : α} (h : (l.set i x)[j]? = some y) : (i = j ∧ y = x ∧ i < l.length) ∨ (i ≠ j ∧ l[j]? = some y) := by
  by_cases e : i = j
  · subst e
    by_cases l' : i < l.length
    · rw [List.getElem?_set_self l'] at h
      cases h
      exact .inl ⟨rfl, rfl, l'⟩
    · rw [List.getElem?_eq_none (by simpa using l')] at h; cases h
  · rw [List.getElem?_set_ne e] at h
    exact .inr ⟨e, h⟩
/-- other names, other slots -/
theorem Sim.env (m : Sim K b g s σ H) {env' : List Slot} {σ' : St} (hl : env'.length = σ'.length) (h : ∀ (i : Nat) (e : Slot), env'[i]? = some e → SlotRep K g H σ'[i]? e) : Sim K b g { s with env := env' } σ' H :=
  ⟨m.muk, m.rmu, m.rnd, m.stl, m.store, m.lnd, m.lol, m.loc, m.lof, hl, h, m.mu0, m.bstep, m.frame, m.rnew, m.hidn⟩
theorem Sim.putSlot (m : Sim K b g s σ H) {i : Nat} {v : V} {e : Slot} (r : SlotRep K g H (some (some v)) e) : Sim K b g { s with env := s.env.set i e } (σ.set i (some v)) H :=
  m.env (by simpa using m.len) fun j x h => by
    rcases getElem?_set_cases h with ⟨rfl, rfl, l⟩ | ⟨ne, h⟩
    · rw [List.getElem?_set_self (by rw [← m.len]; exact l)]
      exact r
    · rw [List.getElem?_set_ne ne]
      exact m.slots j x h
/-- a name is given a value -/
theorem Sim.put (m : Sim K b g s σ H) {i : Nat} {v : V} {t : T} (r : Rep K g H v t) : Sim K b g { s with env := s.env.set i (.val t) } (σ.set i (some v)) H := m.putSlot ⟨v, rfl, r⟩
theorem step_new {p : Addr} {ho : HO} (hp : H p = none) : Step g H { g with mu := p :: g.mu } (upd H p ho) :=
  ⟨fun a h n => by
      rcases List.mem_cons.mp h with rfl | h
      · exact hp
      · exact absurd h n, ⟨[], by simp⟩, ⟨[], by simp⟩, fun a o h _ => Ext.new hp a o h, fun a xs h => Ext.new hp a _ h, fun a o u h => Ext.new hp a _ h⟩
/-- a new thing stands aside -/
def B.hide (b : B) (p : Addr) (ho : HO) : B := { b with hid := (p, ho) :: b.hid }
theorem Sim.rehid {b' : B} (m : Sim K b g s σ H) (hg : b'.g = b.g) (hH : b'.H = b.H) (h : ∀ p ∈ b'.hid, H p.1 = some p.2 ∧ p.1 ∈ g.mu ∧ p.1 ∉ g.rho ∧ p.1 ∉ g.lam) : Sim K b' g s σ H :=
  ⟨m.muk, m.rmu, m.rnd, m.stl, m.store, m.lnd, m.lol, m.loc, by rw [hH]; exact m.lof, m.len, m.slots, by rw [hg, hH]; exact m.mu0, by rw [hg, hH]; exact m.bstep, by rw [hH]; exact m.frame, by rw [hg, hH]; exact m.rnew, h⟩
theorem Sim.hide (m : Sim K b g s σ H) {p : Addr} {ho : HO} (hp : H p = none) (hm : Mut (some ho)) : Sim K (b.hide p ho) { g with mu := p :: g.mu } s σ (upd H p ho) := by
  obtain ⟨f1, f2, f3, f4, f5⟩ := m.fresh hp
  have e : Ext H (upd H p ho) := Ext.new hp
  have t : Step g H { g with mu := p :: g.mu } (upd H p ho) := step_new hp
  have old : ∀ a ∈ g.mu, upd H p ho a = H a := fun a h => upd_ne fun z => f1 (z ▸ h)
  have m2 : Sim K b { g with mu := p :: g.mu } s σ (upd H p ho) := m.to t (fun a h => by
      rcases List.mem_cons.mp h with rfl | h
      · rw [upd_same]; exact hm
      · rw [old a h]; exact m.muk a h) (fun a h => List.mem_cons_of_mem _ (m.rmu a h)) m.rnd m.stl (fun n a o h1 h2 => (m.store n a o h1 h2).step t (old a (m.rmu a (List.mem_of_getElem? h1)))) m.lnd m.lol
    (fun n a o h1 h2 h3 => ⟨(m.loc n a o h1 h2 h3).1.step t (old a (m.loc n a o h1 h2 h3).2), List.mem_cons_of_mem _ (m.loc n a o h1 h2 h3).2⟩) (fun a h => ⟨(m.lof a h).1, (m.lof a h).2.1, ext_ne e (m.lof a h).2.2⟩) m.len (fun i x h => (m.slots i x h).step t)
    (fun a h _ => List.mem_cons_of_mem _ h) (fun a o h _ _ => e a o h) (fun a h n => absurd h n) fun q h => ⟨e _ _ (m.hidn q h).1, List.mem_cons_of_mem _ (m.hidn q h).2.1, (m.hidn q h).2.2⟩
  refine m2.rehid rfl rfl fun q h => ?_
  rcases List.mem_cons.mp h with rfl | h
  · exact ⟨upd_same, List.mem_cons_self .., f2, f3⟩
  · exact m2.hidn q h
/-- what stood aside is new -/
structure Hidn (b : B) (p : Addr) : Prop where
  new : b.H p = none
  ne : ∀ q ∈ b.hid, q.1 ≠ p
theorem Sim.hidn' (m : Sim K b g s σ H) {p : Addr} (hp : H p = none) : Hidn b p := ⟨(m.fresh hp).2.2.2.1, (m.fresh hp).2.2.2.2⟩
/-- an address is mutable no more -/
def G.drop (g : G) (p : Addr) : G := { g with mu := g.mu.filter fun x => decide (x ≠ p) }
theorem mem_drop {p x : Addr} : x ∈ (g.drop p).mu ↔ x ∈ g.mu ∧ x ≠ p := by
  show x ∈ g.mu.filter (fun x => decide (x ≠ p)) ↔ _
  rw [List.mem_filter, decide_eq_true_iff]
theorem step_drop {p : Addr} : Step g H (g.drop p) H := ⟨fun x hx n => absurd (mem_drop.mp hx).1 n, ⟨[], by simp [G.drop]⟩, ⟨[], by simp [G.drop]⟩, fun _ _ e _ => e, fun _ _ e => e, fun _ _ _ e => e⟩
/-- what stood aside is a value that never changes -/
theorem Sim.showVal {p : Addr} {Vs : List V} {ts : List T} (m : Sim K (b.hide p (.lst Vs)) g s σ H) (hb : Hidn b p) (r : RepL K g H Vs ts) : ∃ g', Sim K b g' s σ H ∧ Step g H g' H ∧ Rep K g' H (.ref p) (.lst ts) := by
  obtain ⟨p1, p2, p3, p4⟩ := m.hidn (p, .lst Vs) (List.mem_cons_self ..)
  have m1 : Sim K b g s σ H := m.rehid rfl rfl fun q h => m.hidn q (List.mem_cons_of_mem _ h)
  have t : Step g H (g.drop p) H := step_drop
  refine ⟨g.drop p, m1.to t (fun x hx => m.muk x (mem_drop.mp hx).1) (fun x hx => mem_drop.mpr ⟨m.rmu x hx, fun z => p3 (z ▸ hx)⟩) m.rnd m.stl (fun n x o e1 e2 => (m.store n x o e1 e2).step t rfl) m.lnd m.lol
    (fun n x o e1 e2 e3 => ⟨(m.loc n x o e1 e2 e3).1.step t rfl, mem_drop.mpr ⟨(m.loc n x o e1 e2 e3).2, fun z => p4 (z ▸ List.mem_of_getElem? e1)⟩⟩) m1.lof m.len (fun i x h => (m.slots i x h).step t) (fun a h q => mem_drop.mpr ⟨h, fun z => q (z ▸ hb.new)⟩) (fun a o h _ _ => h) (fun a h n => absurd h n)
    (fun q hq => ⟨(m1.hidn q hq).1, mem_drop.mpr ⟨(m1.hidn q hq).2.1, hb.ne q hq⟩, (m1.hidn q hq).2.2⟩), t, .lst p1 (fun z => (mem_drop.mp z).2 rfl) (r.step t)⟩
/-- what stood aside is the frame's own -/
theorem Sim.showOwn {p : Addr} {ho : HO} {o : O} (m : Sim K (b.hide p ho) g s σ H) (hb : Hidn b p) (r : ORep K g H p o) : Sim K b { g with lam := g.lam ++ [p] } { s with lo := s.lo ++ [o] } σ H ∧ Step g H { g with lam := g.lam ++ [p] } H ∧ (g.lam ++ [p])[s.lo.length]? = some p := by
  obtain ⟨p1, p2, p3, p4⟩ := m.hidn (p, ho) (List.mem_cons_self ..)
  have m1 : Sim K b g s σ H := m.rehid rfl rfl fun q h => m.hidn q (List.mem_cons_of_mem _ h)
  have t : Step g H { g with lam := g.lam ++ [p] } H := ⟨fun x hx n => absurd hx n, ⟨[], by simp⟩, ⟨[p], rfl⟩, fun _ _ e _ => e, fun _ _ e => e, fun _ _ _ e => e⟩
  refine ⟨m1.to t m.muk m.rmu m.rnd m.stl (fun n x o e1 e2 => (m.store n x o e1 e2).step t rfl) ?_ (by show (s.lo ++ [o]).length = (g.lam ++ [p]).length; simp [m.lol]) (fun n a o' h1 h2 h3 => ?_) (fun a h => ?_) m.len (fun i x h => (m.slots i x h).step t) (fun a h _ => h) (fun a o h _ _ => h) (fun a h n => absurd h n)
    (fun q hq => ⟨(m1.hidn q hq).1, (m1.hidn q hq).2.1, (m1.hidn q hq).2.2.1, fun z => ?_⟩), t, ?_⟩
  · refine List.nodup_append.mpr ⟨m.lnd, by simp, fun a h1 c h2 z => ?_⟩
    rw [List.mem_singleton] at h2
    exact p4 (h2 ▸ z ▸ h1)
  · have h1 : (g.lam ++ [p])[n]? = some a := h1
    have h2 : (s.lo ++ [o])[n]? = some o' := h2
    rw [List.getElem?_append] at h1 h2
    rw [m.lol] at h2
    split at h1
    · rename_i l
      rw [if_pos l] at h2
      exact ⟨(m.loc n a o' h1 h2 h3).1.step t rfl, (m.loc n a o' h1 h2 h3).2⟩
    · rename_i l
      rw [if_neg l] at h2
      have z : n - g.lam.length = 0 := by
        have := (List.getElem?_eq_some_iff.mp h1).1
        simpa using this
      rw [z] at h1 h2
      cases h1
      cases h2
      exact ⟨r.step t rfl, p2⟩
  · have h : a ∈ g.lam ++ [p] := h
    rcases List.mem_append.mp h with h | h
    · exact m1.lof a h
    · rw [List.mem_singleton] at h
      subst h
      exact ⟨p3, hb.new, by rw [p1]; simp⟩
  · rcases List.mem_append.mp (show q.1 ∈ g.lam ++ [p] from z) with z | z
    · exact (m1.hidn q hq).2.2.2 z
    · rw [List.mem_singleton] at z
      exact hb.ne q hq z
  · rw [m.lol, List.getElem?_append_right (Nat.le_refl _)]
    simp
/-- what stood aside is the store's -/
theorem Sim.showLoc {p : Addr} {ho : HO} {o : O} (m : Sim K (b.hide p ho) g s σ H) (hb : Hidn b p) (r : SRep K g H p o) : ∃ g', Sim K b g' { s with st := s.st ++ [o] } σ H ∧ Step g H g' H ∧ Rep K g' H (.ref p) (.loc s.st.length) := by
  obtain ⟨p1, p2, p3, p4⟩ := m.hidn (p, ho) (List.mem_cons_self ..)
  have m1 : Sim K b g s σ H := m.rehid rfl rfl fun q h => m.hidn q (List.mem_cons_of_mem _ h)
  have t : Step g H { g with rho := g.rho ++ [p] } H := ⟨fun x hx n => absurd hx n, ⟨[p], rfl⟩, ⟨[], by simp⟩, fun _ _ e _ => e, fun _ _ e => e, fun _ _ _ e => e⟩
  have at_ : (g.rho ++ [p])[s.st.length]? = some p := by
    rw [m.stl, List.getElem?_append_right (Nat.le_refl _)]
    simp
  have m2 : Sim K b { g with rho := g.rho ++ [p] } { s with st := s.st ++ [o] } σ H := by
    refine ⟨m.muk, fun a h => ?_, ?_, by show (s.st ++ [o]).length = (g.rho ++ [p]).length; simp [m.stl], fun n a o' h1 h2 => ?_, m.lnd, m.lol, fun n a o' h1 h2 h3 => ⟨(m.loc n a o' h1 h2 h3).1.step t rfl, (m.loc n a o' h1 h2 h3).2⟩, fun a h => ?_, m.len, fun i x h => (m.slots i x h).step t, m1.mu0, m1.bstep.trans t, fun a o h n => m1.frame a o h fun z => n (List.mem_append_left _ z), fun a h n => ?_, fun q hq => ⟨(m1.hidn q hq).1, (m1.hidn q hq).2.1, fun z => ?_, (m1.hidn q hq).2.2.2⟩⟩
    · rcases List.mem_append.mp (show a ∈ g.rho ++ [p] from h) with h | h
      · exact m.rmu a h
      · rw [List.mem_singleton] at h; rw [h]; exact p2
    · refine List.nodup_append.mpr ⟨m.rnd, by simp, fun a h1 c h2 z => ?_⟩
      rw [List.mem_singleton] at h2
      exact p3 (h2 ▸ z ▸ h1)
    · have h1 : (g.rho ++ [p])[n]? = some a := h1
      have h2 : (s.st ++ [o])[n]? = some o' := h2
      rw [List.getElem?_append] at h1 h2
      rw [m.stl] at h2
      split at h1
      · rename_i l
        rw [if_pos l] at h2
        exact (m.store n a o' h1 h2).step t rfl
      · rename_i l
        rw [if_neg l] at h2
        have z : n - g.rho.length = 0 := by
          have := (List.getElem?_eq_some_iff.mp h1).1
          simpa using this
        rw [z] at h1 h2
        cases h1
        cases h2
        exact r.step t rfl
    · refine ⟨fun z => ?_, (m1.lof a h).2⟩
      rcases List.mem_append.mp (show a ∈ g.rho ++ [p] from z) with z | z
      · exact (m1.lof a h).1 z
      · rw [List.mem_singleton] at z
        exact p4 (z ▸ h)
    · rcases List.mem_append.mp (show a ∈ g.rho ++ [p] from h) with h | h
      · exact m1.rnew a h n
      · rw [List.mem_singleton] at h; rw [h]; exact hb.new
    · rcases List.mem_append.mp (show q.1 ∈ g.rho ++ [p] from z) with z | z
      · exact (m1.hidn q hq).2.2.1 z
      · rw [List.mem_singleton] at z
        exact hb.ne q hq z
  exact ⟨_, m2, t, .loc at_⟩
theorem step_upd (m : Sim K b g s σ H) {p : Addr} {ho : HO} (hp : p ∈ g.mu) : Step g H g (upd H p ho) := by
  have nt : ∀ x o, ¬ Mut (some o) → H x = some o → x ≠ p := fun x o h e z => by
    subst z
    have := m.muk x hp
    rw [e] at this; exact h this
  exact ⟨fun x hx n => absurd hx n, ⟨[], by simp⟩, ⟨[], by simp⟩, fun x o e n => by rw [upd_ne (show x ≠ p from fun z => n (by rw [z]; exact hp))]; exact e,
    fun x xs e => by rw [upd_ne (nt x (.tup xs) (fun q => (show False from q)) e)]; exact e, fun x o u e => by rw [upd_ne (nt x (.frz o u) (fun q => (show False from q)) e)]; exact e⟩
theorem upd_some {p x : Addr} {ho : HO} (h : H x ≠ none) : upd H p ho x ≠ none := by
  by_cases z : x = p
  · subst z; rw [upd_same]; simp
  · rw [upd_ne z]; exact h
theorem nodup_at {l : List Addr} (h : l.Nodup) {i j : Nat} {a : Addr} (h1 : l[i]? = some a) (h2 : l[j]? = some a) : i = j := (List.getElem?_inj (List.getElem?_eq_some_iff.mp h1).1 h).mp (h1.trans h2.symm)
/-- a thing of the frame's own changes -/
theorem Sim.setLo (m : Sim K b g s σ H) {n : Nat} {a : Addr} {ho : HO} {o o' : O} (h1 : g.lam[n]? = some a) (h2 : s.lo[n]? = some o) (h3 : o ≠ .dead) (hm : Mut (some ho)) (r : Step g H g (upd H a ho) → ORep K g (upd H a ho) a o') :
    Sim K b g { s with lo := s.lo.set n o' } σ (upd H a ho) ∧ Step g H g (upd H a ho) := by
  have hp : a ∈ g.mu := (m.loc n a o h1 h2 h3).2
  have t := step_upd m hp (ho := ho)
  obtain ⟨f1, f2, f3⟩ := m.lof a (List.mem_of_getElem? h1)
  refine ⟨m.to t (fun x hx => ?_) m.rmu m.rnd m.stl (fun j x o e1 e2 => (m.store j x o e1 e2).step t (upd_ne fun z => f1 (z ▸ List.mem_of_getElem? e1))) m.lnd (by show (s.lo.set n o').length = _; simpa using m.lol) (fun j x o2 e1 e2 e3 => ?_) (fun x hx => ⟨(m.lof x hx).1, (m.lof x hx).2.1, upd_some (m.lof x hx).2.2⟩) m.len (fun i x h => (m.slots i x h).step t)
    (fun x h _ => h) (fun x o e q _ => ?_) (fun x h n => absurd h n) fun q hq => ⟨?_, (m.hidn q hq).2⟩, t⟩
  · by_cases z : x = a
    · subst z; rw [upd_same]; exact hm
    · rw [upd_ne z]; exact m.muk x hx
  · rcases getElem?_set_cases (show (s.lo.set n o')[j]? = some o2 from e2) with ⟨rfl, rfl, _⟩ | ⟨ne, e2⟩
    · rw [h1] at e1
      cases e1
      exact ⟨r t, hp⟩
    · exact ⟨(m.loc j x o2 e1 e2 e3).1.step t (upd_ne fun z => ne (nodup_at m.lnd h1 (z ▸ e1))), (m.loc j x o2 e1 e2 e3).2⟩
  · rw [upd_ne (show x ≠ a from fun z => q (z ▸ f2))]; exact e
  · rw [upd_ne (show q.1 ≠ a from fun z => (m.hidn q hq).2.2.2 (z ▸ List.mem_of_getElem? h1))]; exact (m.hidn q hq).1
/-- a thing of the store changes -/
theorem Sim.setLoc (m : Sim K b g s σ H) {n : Nat} {a : Addr} {ho : HO} {o' : O} (h1 : g.rho[n]? = some a) (hm : Mut (some ho)) (r : Step g H g (upd H a ho) → SRep K g (upd H a ho) a o') :
    Sim K b g { s with st := s.st.set n o' } σ (upd H a ho) ∧ Step g H g (upd H a ho) := by
  have hr : a ∈ g.rho := List.mem_of_getElem? h1
  have hp : a ∈ g.mu := m.rmu a hr
  have t := step_upd m hp (ho := ho)
  refine ⟨m.to t (fun x hx => ?_) m.rmu m.rnd (by show (s.st.set n o').length = _; simpa using m.stl) (fun j x o2 e1 e2 => ?_) m.lnd m.lol (fun j x o e1 e2 e3 => ⟨(m.loc j x o e1 e2 e3).1.step t (upd_ne fun z => (m.lof x (List.mem_of_getElem? e1)).1 (z ▸ hr)), (m.loc j x o e1 e2 e3).2⟩) (fun x hx => ⟨(m.lof x hx).1, (m.lof x hx).2.1, upd_some (m.lof x hx).2.2⟩) m.len (fun i x h => (m.slots i x h).step t)
    (fun x h _ => h) (fun x o e _ q => ?_) (fun x h n => absurd h n) fun q hq => ⟨?_, (m.hidn q hq).2⟩, t⟩
  · by_cases z : x = a
    · subst z; rw [upd_same]; exact hm
    · rw [upd_ne z]; exact m.muk x hx
  · rcases getElem?_set_cases (show (s.st.set n o')[j]? = some o2 from e2) with ⟨rfl, rfl, _⟩ | ⟨ne, e2⟩
    · rw [h1] at e1
      cases e1
      exact r t
    · exact (m.store j x o2 e1 e2).step t (upd_ne fun z => ne (nodup_at m.rnd h1 (z ▸ e1)))
  · rw [upd_ne (show x ≠ a from fun z => q (z ▸ hr))]; exact e
  · rw [upd_ne (show q.1 ≠ a from fun z => (m.hidn q hq).2.2.1 (z ▸ hr))]; exact (m.hidn q hq).1
/-- what stands aside changes -/
theorem Sim.grow {p : Addr} {ho ho' : HO} (m : Sim K (b.hide p ho) g s σ H) (hm : Mut (some ho')) (hb : Hidn b p) : Sim K (b.hide p ho') g s σ (upd H p ho') ∧ Step g H g (upd H p ho') := by
  obtain ⟨p1, p2, p3, p4⟩ := m.hidn (p, ho) (List.mem_cons_self ..)
  have m1 : Sim K b g s σ H := m.rehid rfl rfl fun q h => m.hidn q (List.mem_cons_of_mem _ h)
  have t := step_upd m p2 (ho := ho')
  have m2 : Sim K b g s σ (upd H p ho') := by
    refine m1.to t (fun x hx => ?_) m.rmu m.rnd m.stl (fun j x o2 e1 e2 => (m.store j x o2 e1 e2).step t (upd_ne fun z => p3 (z ▸ List.mem_of_getElem? e1))) m.lnd m.lol (fun j x o e1 e2 e3 => ⟨(m.loc j x o e1 e2 e3).1.step t (upd_ne fun z => p4 (z ▸ List.mem_of_getElem? e1)), (m.loc j x o e1 e2 e3).2⟩) (fun x hx => ⟨(m1.lof x hx).1, (m1.lof x hx).2.1, upd_some (m1.lof x hx).2.2⟩) m.len (fun i x h => (m.slots i x h).step t)
      (fun x h _ => h) (fun x o e q _ => ?_) (fun x h n => absurd h n) fun q hq => ⟨?_, (m1.hidn q hq).2⟩
    · by_cases z : x = p
      · subst z; rw [upd_same]; exact hm
      · rw [upd_ne z]; exact m.muk x hx
    · rw [upd_ne (show x ≠ p from fun z => q (z ▸ hb.new))]; exact e
    · rw [upd_ne (hb.ne q hq)]; exact (m1.hidn q hq).1
  refine ⟨m2.rehid rfl rfl fun q h => ?_, t⟩
  rcases List.mem_cons.mp h with rfl | h
  · exact ⟨upd_same, p2, p3, p4⟩
  · exact m2.hidn q h
/-- a thing of the frame's own never changes again -/
theorem Sim.stop (m : Sim K b g s σ H) {n : Nat} {a : Addr} (h1 : g.lam[n]? = some a) : Sim K b (g.drop a) { s with lo := s.lo.set n .dead } σ H ∧ Step g H (g.drop a) H := by
  have t : Step g H (g.drop a) H := step_drop
  obtain ⟨f1, f2, f3⟩ := m.lof a (List.mem_of_getElem? h1)
  refine ⟨m.to t (fun x hx => m.muk x (mem_drop.mp hx).1) (fun x hx => mem_drop.mpr ⟨m.rmu x hx, fun z => f1 (z ▸ hx)⟩) m.rnd m.stl (fun n x o e1 e2 => (m.store n x o e1 e2).step t rfl) m.lnd (by show (s.lo.set n .dead).length = g.lam.length; simpa using m.lol) (fun j x o2 e1 e2 e3 => ?_) m.lof m.len (fun i x h => (m.slots i x h).step t)
    (fun x h q => mem_drop.mpr ⟨h, fun z => q (z ▸ f2)⟩) (fun x o e _ _ => e) (fun x h n => absurd h n) fun q hq => ⟨(m.hidn q hq).1, mem_drop.mpr ⟨(m.hidn q hq).2.1, fun z => (m.hidn q hq).2.2.2 (z ▸ List.mem_of_getElem? h1)⟩, (m.hidn q hq).2.2⟩, t⟩
  rcases getElem?_set_cases (show (s.lo.set n .dead)[j]? = some o2 from e2) with ⟨rfl, rfl, _⟩ | ⟨ne, e2⟩
  · exact absurd rfl e3
  · obtain ⟨q1, q2⟩ := m.loc j x o2 e1 e2 e3
    exact ⟨q1.step t rfl, mem_drop.mpr ⟨q2, fun z => ne (nodup_at m.lnd h1 (z ▸ e1))⟩⟩
/-- .. and is known to its object -/
theorem Sim.lock (m : Sim K b g s σ H) {n : Nat} {a : Addr} {o : O} {od : Obj} {u : HO} (h1 : g.lam[n]? = some a) (h2 : s.lo[n]? = some o) (h3 : o ≠ .dead) : Sim K b (g.drop a) { s with lo := s.lo.set n .dead } σ (upd H a (.frz od u)) ∧ Step g H (g.drop a) (upd H a (.frz od u)) := by
  have hp : a ∈ g.mu := (m.loc n a o h1 h2 h3).2
  have t0 := step_upd m hp (ho := .frz od u)
  have t : Step g H (g.drop a) (upd H a (.frz od u)) := t0.trans step_drop
  obtain ⟨f1, f2, f3⟩ := m.lof a (List.mem_of_getElem? h1)
  refine ⟨m.to t (fun x hx => ?_) (fun x hx => mem_drop.mpr ⟨m.rmu x hx, fun z => f1 (z ▸ hx)⟩) m.rnd m.stl (fun j x o e1 e2 => (m.store j x o e1 e2).step t (upd_ne fun z => f1 (z ▸ List.mem_of_getElem? e1))) m.lnd (by show (s.lo.set n .dead).length = g.lam.length; simpa using m.lol) (fun j x o2 e1 e2 e3 => ?_) (fun x hx => ⟨(m.lof x hx).1, (m.lof x hx).2.1, upd_some (m.lof x hx).2.2⟩) m.len (fun i x h => (m.slots i x h).step t)
    (fun x h q => mem_drop.mpr ⟨h, fun z => q (z ▸ f2)⟩) (fun x o e q _ => ?_) (fun x h n => absurd h n) fun q hq => ⟨?_, mem_drop.mpr ⟨(m.hidn q hq).2.1, fun z => (m.hidn q hq).2.2.2 (z ▸ List.mem_of_getElem? h1)⟩, (m.hidn q hq).2.2⟩, t⟩
  · rw [upd_ne (mem_drop.mp hx).2]; exact m.muk x (mem_drop.mp hx).1
  · rcases getElem?_set_cases (show (s.lo.set n .dead)[j]? = some o2 from e2) with ⟨rfl, rfl, _⟩ | ⟨ne, e2⟩
    · exact absurd rfl e3
    · obtain ⟨q1, q2⟩ := m.loc j x o2 e1 e2 e3
      have nx : x ≠ a := fun z => ne (nodup_at m.lnd h1 (z ▸ e1))
      exact ⟨q1.step t (upd_ne nx), mem_drop.mpr ⟨q2, nx⟩⟩
  · rw [upd_ne (show x ≠ a from fun z => q (z ▸ f2))]; exact e
  · rw [upd_ne (show q.1 ≠ a from fun z => (m.hidn q hq).2.2.2 (z ▸ List.mem_of_getElem? h1))]; exact (m.hidn q hq).1
theorem not_drop {p : Addr} : p ∉ (g.drop p).mu := fun h => (mem_drop.mp h).2 rfl
/-- .. a list -/
theorem Sim.stopL (m : Sim K b g s σ H) {n : Nat} {a : Addr} {ts : List T} (h1 : g.lam[n]? = some a) (h2 : s.lo[n]? = some (.lst ts)) : Sim K b (g.drop a) { s with lo := s.lo.set n .dead } σ H ∧ Step g H (g.drop a) H ∧ Rep K (g.drop a) H (.ref a) (.lst ts) := by
  obtain ⟨m1, t⟩ := m.stop h1
  refine ⟨m1, t, ?_⟩
  cases (m.loc n a _ h1 h2 (by simp)).1 with
  | lst e r => exact .lst e not_drop (r.step t)
def isTupT : T → Bool
  | .tup _ => true
  | _ => false
mutual
theorem rep_same (h1 : g'.mu = g.mu) (h2 : g'.rho = g.rho) : ∀ {v : V} {x : T}, Rep K g H v x → Rep K g' H v x
  | _, _, .non => .non
  | _, _, .bl b => .bl b
  | _, _, .int i => .int i
  | _, _, .str z => .str z
  | _, _, .tup h n r => .tup h n (repL_same h1 h2 r)
  | _, _, .pr h r => .pr h (repL_same h1 h2 r)
  | _, _, .lst h n r => .lst h (by rw [h1]; exact n) (repL_same h1 h2 r)
  | _, _, .lstF h r => .lstF h (repL_same h1 h2 r)
  | _, _, .dct h r r' => .dct h (repL_same h1 h2 r) (repL_same h1 h2 r')
  | _, _, .dcn h r r' e => .dcn h (repL_same h1 h2 r) (repL_same h1 h2 r') e
  | _, _, .loc h => .loc (by rw [h2]; exact h)
theorem repL_same (h1 : g'.mu = g.mu) (h2 : g'.rho = g.rho) : ∀ {v : List V} {x : List T}, RepL K g H v x → RepL K g' H v x
  | _, _, .nil => .nil
  | _, _, .cons a b => .cons (rep_same h1 h2 a) (repL_same h1 h2 b)
end
/-- the frame's own is not the callee's -/
def G.call (g : G) : G := { g with lam := [] }
def G.back (g' g : G) : G := { g' with lam := g.lam }
theorem orep_same {o : O} {a : Addr} (h1 : g'.mu = g.mu) (h2 : g'.rho = g.rho) (hf : o.free = true) (r : ORep K g H a o) : ORep K g' H a o := by
  cases r with
  | lst h r => exact .lst h (repL_same h1 h2 r)
  | dic h r r' => exact .dic h (repL_same h1 h2 r) (repL_same h1 h2 r')
  | dicN h r r' q n => exact .dicN h (repL_same h1 h2 r) (repL_same h1 h2 r') q n
  | dicL => cases hf
  | dicM => cases hf
  | tab k1 k2 k3 k4 k5 =>
    refine .tab k1 k2 k3 k4 fun pos cv hc => ?_
    obtain ⟨c, q1, q2, q3⟩ := k5 pos cv hc
    exact ⟨c, q1, q2, by rw [h1]; exact q3⟩
theorem Sim.to_call (m : Sim K b g s σ H) {n : Nat} {a : Addr} {o : O} (h1 : g.rho[n]? = some a) (h2 : s.st[n]? = some o) : SRep K g.call H a o := ⟨orep_same (g := g) (g' := g.call) rfl rfl (m.store n a o h1 h2).free (m.store n a o h1 h2).rep, (m.store n a o h1 h2).free⟩
/-- behind the call -/
theorem Sim.back {s2 : S} {σ2 : St} {v : V} {t : T} (m : Sim K b g s σ H) (m' : Sim K ⟨g.call, H, []⟩ g' s2 σ2 H') (r : Rep K g' H' v t) : Sim K b (g'.back g) { s with st := s2.st } σ H' ∧ Step g H (g'.back g) H' ∧ Rep K (g'.back g) H' v t := by
  have t0 := m'.bstep
  have tt : Step g H (g'.back g) H' := ⟨t0.new, t0.rho, ⟨[], by simp [G.back]⟩, t0.keep, t0.tups, t0.frzs⟩
  have mur : ∀ a ∈ g.mu, a ∈ g'.mu := fun a h => (m'.mu0 a h).1
  have rn : ∀ a ∈ g'.rho, a ∉ g.rho → H a = none := m'.rnew
  have lr : ∀ a ∈ g.lam, a ∉ g'.rho := fun a h z => (m.lof a h).2.2 (rn a z (m.lof a h).1)
  have keepL : ∀ a, a ∉ g'.rho → H a ≠ none → H' a = H a := fun a n h => by
    cases q : H a with
    | none => exact absurd q h
    | some o => exact m'.frame a o q n
  refine ⟨m.to tt m'.muk m'.rmu m'.rnd m'.stl (fun n a o h1 h2 => ⟨orep_same (g := g') (g' := g'.back g) rfl rfl (m'.store n a o h1 h2).free (m'.store n a o h1 h2).rep, (m'.store n a o h1 h2).free⟩) m.lnd m.lol (fun n a o h1 h2 h3 => ?_) (fun a h => ⟨lr a h, (m.lof a h).2.1, ?_⟩) m.len (fun i e h => (m.slots i e h).step tt) (fun a h _ => mur a h) (fun a o h _ n => m'.frame a o h n) (fun a h n => rn a h n) fun p hp => ?_, tt, rep_same (g := g') (g' := g'.back g) rfl rfl r⟩
  · obtain ⟨q1, q2⟩ := m.loc n a o h1 h2 h3
    have la := List.mem_of_getElem? h1
    exact ⟨q1.step tt (keepL a (lr a la) (m.lof a la).2.2), mur a q2⟩
  · rw [keepL a (lr a h) (m.lof a h).2.2]
    exact (m.lof a h).2.2
  · obtain ⟨q1, q2, q3, q4⟩ := m.hidn p hp
    have n : p.1 ∉ g'.rho := fun z => by
      have := rn p.1 z q3
      rw [q1] at this; cases this
    exact ⟨m'.frame _ _ q1 n, mur _ q2, n, q4⟩
mutual
def T.pure : T → Bool
  | .tup ts => pures ts
  | .pr ts => pures ts
  | .lst ts => pures ts
  | .dct ks vs => pures ks && pures vs
  | .dcn ks vs => pures ks && pures vs
  | .loc _ => false
  | _ => true
def pures : List T → Bool
  | [] => true
  | t :: ts => t.pure && pures ts
end
def G.nil : G := ⟨[], [], []⟩
mutual
theorem Rep.nil : ∀ {v : V} {t : T}, t.pure = true → Rep K g H v t → Rep K G.nil H v t
  | _, _, _, .non => .non
  | _, _, _, .bl b => .bl b
  | _, _, _, .int i => .int i
  | _, _, _, .str z => .str z
  | _, _, h, .tup h1 n r => .tup h1 n (RepL.pnil (by simpa [T.pure] using h) r)
  | _, _, h, .pr h1 r => .pr h1 (RepL.pnil (by simpa [T.pure] using h) r)
  | _, _, h, .lst h1 n r => .lst h1 (by simp [G.nil]) (RepL.pnil (by simpa [T.pure] using h) r)
  | _, _, h, .lstF h1 r => .lstF h1 (RepL.pnil (by simpa [T.pure] using h) r)
  | _, _, h, .dct h1 r r' => .dct h1 (RepL.pnil (by simp [T.pure] at h; exact h.1) r) (RepL.pnil (by simp [T.pure] at h; exact h.2) r')
  | _, _, h, .dcn h1 r r' e => .dcn h1 (RepL.pnil (by simp [T.pure] at h; exact h.1) r) (RepL.pnil (by simp [T.pure] at h; exact h.2) r') e
  | _, _, h, .loc _ => by simp [T.pure] at h
theorem RepL.pnil : ∀ {v : List V} {t : List T}, pures t = true → RepL K g H v t → RepL K G.nil H v t
  | _, _, _, .nil => .nil
  | _, _, h, .cons a r => by
    rw [pures, Bool.and_eq_true] at h
    exact .cons (Rep.nil h.1 a) (RepL.pnil h.2 r)
end
/-- nothing is held: a base for a call that takes mutable things as values -/
theorem Sim.nilStart (H : Hp) : Sim K ⟨G.nil, H, []⟩ G.nil ⟨[], [], []⟩ [] H :=
  ⟨fun a h => by simp [G.nil] at h, fun a h => by simp [G.nil] at h, by simp [G.nil], rfl, fun n a o h => by simp [G.nil] at h, by simp [G.nil], rfl, fun n a o h => by simp [G.nil] at h, fun a h => by simp [G.nil] at h, rfl, fun i e h => by simp at h, fun a h => by simp [G.nil] at h, Step.refl, fun a o h _ => h, fun a h => by simp [G.nil] at h, fun p h => by cases h⟩
end
section
variable {K : Kx} {g : G} {H : Hp} {p : Addr} {vs : List V} {ts : List T} {o : Obj}
/-- a new tuple -/
theorem Rep.new (hd : o.dict = none) (hp : H p = none) (r : RepL K g H vs ts) : Rep K g (upd H p (.frz o (.tup vs))) (.ref p) (.tup ts) :=
  .tup (.inl (.inr ⟨o, upd_same⟩)) (.inl ⟨o, _, hd, upd_same⟩) (r.step (Step.ext (Ext.new hp)))
end
end L2.Z
set_option Elab.async false
set_option linter.all false
set_option maxRecDepth 100000
set_option maxHeartbeats 2000000
namespace L2.Z
open PySem PySem.Spec PyProof.Rows
theorem pe_mono {X : Cx} {e : Expr} {t t' : TE} (h : PE X e t) (w : ∀ σ H Q, t' σ H Q → t σ H Q) : PE X e t' := ⟨fun pins s σ H Q I q => h.run pins s σ H Q I (w σ H Q q)⟩
theorem pt_mono {X : Cx} {e : Expr} {t t' : TT} (h : PT X e t) (w : ∀ σ H Q, t' σ H Q → t σ H Q) : PT X e t' := ⟨fun pins s σ H Q I q => h.run pins s σ H Q I (w σ H Q q)⟩
theorem pw_mono {X : Cx} {e : Expr} {t t' : TT} (h : PW X e t) (w : ∀ σ H Q, t' σ H Q → t σ H Q) : PW X e t' := ⟨fun wh pins s σ H Q I q => h.run wh pins s σ H Q I (w σ H Q q)⟩
theorem pa_mono {X : Cx} {e : List Expr} {t t' : TA} (h : PA X e t) (w : ∀ σ H Q, t' σ H Q → t σ H Q) : PA X e t' := ⟨fun pos pins s σ H Q I q => h.run pos pins s σ H Q I (w σ H Q q)⟩
theorem ps_mono {X : Cx} {e : Stmt} {t t' : TS} (h : PS X e t) (w : ∀ D σ H, t' D σ H → t D σ H) : PS X e t' := ⟨fun pins s σ H D I q => h.run pins s σ H D I (w D σ H q)⟩
theorem pss_mono {X : Cx} {e : List Stmt} {t t' : TS} (h : PSs X e t) (w : ∀ D σ H, t' D σ H → t D σ H) : PSs X e t' := ⟨fun pins s σ H D I q => h.run pins s σ H D I (w D σ H q)⟩
theorem pg_mono {X : Cx} {e : Expr} {t t' : TG} (h : PG X e t) (w : ∀ v σ H Q, t' v σ H Q → t v σ H Q) : PG X e t' := ⟨fun pins s σ H v u Q I r q => h.run pins s σ H v u Q I r (w v σ H Q q)⟩
theorem pgs_mono {X : Cx} {e : List Expr} {t t' : TGs} (h : PGs X e t) (w : ∀ v σ H Q, t' v σ H Q → t v σ H Q) : PGs X e t' := ⟨fun pins s σ H v u Q I r q => h.run pins s σ H v u Q I r (w v σ H Q q)⟩
theorem pi_mono {X : Cx} {tg e : Expr} {t t' : TI} (h : PI X tg e t) (w : ∀ σ H Q, t' σ H Q → t σ H Q) : PI X tg e t' := ⟨fun pins s σ H Q I q => h.run pins s σ H Q I (w σ H Q q)⟩
abbrev _root_.L2.Cx.kx (X : Cx) : Kx := ⟨X.K, X.prog, X.w⟩
section
variable (K : Kx)
def rd (f : Ev) : TE := fun σ H Q => ∃ b g s v s', Sim K b g s σ H ∧ f s = .ok v s' ∧ ∀ g' H' V, Sim K b g' s' σ H' → Step g H g' H' → Rep K g' H' V v → Q V H'
def rdA (f : Ea) : TA := fun σ H Q => ∃ b g s vs s', Sim K b g s σ H ∧ f s = .ok vs s' ∧ ∀ g' H' Vs, Sim K b g' s' σ H' → Step g H g' H' → RepL K g' H' Vs vs → Q Vs H'
/-- a new list, that stands aside -/
def rdF (f : Ea) : TE := fun σ H Q => ∃ b g s vs s', Sim K b g s σ H ∧ f s = .ok vs s' ∧ ∀ g' H' Vs p, Sim K (b.hide p (.lst Vs)) g' s' σ H' → Step g H g' H' → RepL K g' H' Vs vs → Hidn b p → Q (.ref p) H'
abbrev Et := S → R Bool
def rdT (f : Et) : TT := fun σ H Q => ∃ b g s c s', Sim K b g s σ H ∧ f s = .ok c s' ∧ ∀ g' H', Sim K b g' s' σ H' → Step g H g' H' → Q c H'
/-- how a statement ends -/
inductive Rt where
  | val (t : T) | own (n : Nat)
inductive Fl where
  | nx | ret (t : Rt) | bk | ct
abbrev Sv := S → R Fl
def SEnd (b : B) (g : G) (H : Hp) (D : Ends) (s' : S) : Fl → Prop
  | .nx => ∀ g' σ' H', Sim K b g' s' σ' H' → Step g H g' H' → D.nx σ' H'
  | .ret (.val v) => ∀ g' σ' H' V, Sim K b g' s' σ' H' → Step g H g' H' → Rep K g' H' V v → D.rt V H'
  | .ret (.own n) => ∀ g' σ' H' a, Sim K b g' s' σ' H' → Step g H g' H' → g'.lam[n]? = some a → D.rt (.ref a) H'
  | .bk => ∀ g' σ' H', Sim K b g' s' σ' H' → Step g H g' H' → D.bk σ' H'
  | .ct => ∀ g' σ' H', Sim K b g' s' σ' H' → Step g H g' H' → D.ct σ' H'
def rdS (f : Sv) : TS := fun D σ H => ∃ b g s fl s', Sim K b g s σ H ∧ f s = .ok fl s' ∧ SEnd K b g H D s' fl
abbrev Pat := T → S → R Unit
/-- σ' is σ but at these slots -/
def But (vs : List Nat) (σ σ' : St) : Prop := σ'.length = σ.length ∧ ∀ i : Nat, i ∉ vs → σ'[i]? = σ[i]?
def rdG (us : List Nat) (f : Pat) : TG := fun v σ H Q => ∃ b g s t s', Sim K b g s σ H ∧ Rep K g H v t ∧ f t s = .ok () s' ∧ ∀ g' σ' H', But us σ σ' → Sim K b g' s' σ' H' → Step g H g' H' → Q σ' H'
abbrev Pats := List T → S → R Unit
def rdGs (us : List Nat) (f : Pats) : TGs := fun v σ H Q => ∃ b g s t s', Sim K b g s σ H ∧ RepL K g H v t ∧ f t s = .ok () s' ∧ ∀ g' σ' H', But us σ σ' → Sim K b g' s' σ' H' → Step g H g' H' → Q σ' H'
/-- an iterator gives these things, whatever happens to mutable ones -/
def ItOk (g : G) (H : Hp) (J : It) (ts : List T) : Prop := ∀ g1 H1, Step g H g1 H1 →
  (∀ i t, ts[i]? = some t → J.go i H1 ∧ ∀ x H2, J.yld i H1 x H2 → Ext H1 H2 ∧ Rep K g1 H2 x t) ∧ J.stop ts.length H1
def rdI (f : Ea) : TI := fun σ H Rr => ∃ b g s vs s', Sim K b g s σ H ∧ f s = .ok vs s' ∧ ∀ g' H' J, Sim K b g' s' σ H' → Step g H g' H' → ItOk K g' H' J vs → vs.length ≤ sizeLine → Rr J H'
end
section
variable (X : Cx)
abbrev FE (e : Expr) (f : Ev) : Prop := PE X e (rd X.kx f)
abbrev FA (e : List Expr) (f : Ea) : Prop := PA X e (rdA X.kx f)
abbrev FF (e : Expr) (f : Ea) : Prop := PE X e (rdF X.kx f)
abbrev FT (e : Expr) (f : Et) : Prop := PT X e (rdT X.kx f)
abbrev FW (e : Expr) (f : Et) : Prop := PW X e (rdT X.kx f)
abbrev FS (e : Stmt) (f : Sv) : Prop := PS X e (rdS X.kx f)
abbrev FSs (e : List Stmt) (f : Sv) : Prop := PSs X e (rdS X.kx f)
abbrev FG (e : Expr) (us : List Nat) (f : Pat) : Prop := PG X e (rdG X.kx us f)
abbrev FGs (e : List Expr) (us : List Nat) (f : Pats) : Prop := PGs X e (rdGs X.kx us f)
abbrev FI (tg e : Expr) (f : Ea) : Prop := PI X tg e (rdI X.kx f)
end
theorem But.refl {vs : List Nat} {σ : St} : But vs σ σ := ⟨rfl, fun _ _ => rfl⟩
theorem But.set {i : Nat} {σ : St} {x : Option V} : But [i] σ (σ.set i x) := ⟨by simp, fun j h => List.getElem?_set_ne (fun e => h (by simp [e]))⟩
theorem But.trans {us vs : List Nat} {σ σ1 σ2 : St} (a : But us σ σ1) (b : But vs σ1 σ2) : But (us ++ vs) σ σ2 := ⟨b.1.trans a.1, fun i h => (b.2 i fun q => h (List.mem_append_right _ q)).trans (a.2 i fun q => h (List.mem_append_left _ q))⟩
theorem bind_ok {α β : Type} {r : R α} {f : α → S → R β} {y : β} {s' : S} (h : r.bind f = .ok y s') : ∃ x s1, r = .ok x s1 ∧ f x s1 = .ok y s' := by
  cases r with
  | ok a s => exact ⟨a, s, rfl, h⟩
  | exc e s => cases h
  | no => cases h
theorem rep_bl {K : Kx} {g : G} {H : Hp} {V : V} {c : Bool} (h : Rep K g H V (.bl c)) : V = .bl c := by cases h; rfl
theorem rep_int {K : Kx} {g : G} {H : Hp} {V : V} {c : Int} (h : Rep K g H V (.int c)) : V = .int c := by cases h; rfl
theorem rep_str {K : Kx} {g : G} {H : Hp} {V : V} {c : Str} (h : Rep K g H V (.str c)) : V = .str c := by cases h; rfl
def fC (t : T) : Ev := fun s => .ok t s
def fVar (i : Nat) : Ev := fun s => match s.env[i]? with
  | some (.val t) => .ok t s
  | _ => .no
section
variable {X : Cx} {pos : Pos}
theorem fe_int {i j} : FE X (.Constant (.int i) j pos) (fC (.int i)) := pe_mono pe_int fun σ H Q ⟨b, g, s, v, s', m, e, k⟩ => by cases e; exact k g H _ m Step.refl (.int i)
theorem fe_bl {c j} : FE X (.Constant (.bool c) j pos) (fC (.bl c)) := pe_mono pe_bl fun σ H Q ⟨b, g, s, v, s', m, e, k⟩ => by cases e; exact k g H _ m Step.refl (.bl c)
theorem fe_non {j} : FE X (.Constant .none j pos) (fC .non) := pe_mono pe_non fun σ H Q ⟨b, g, s, v, s', m, e, k⟩ => by cases e; exact k g H _ m Step.refl .non
theorem fe_str {x j} : FE X (.Constant (.str x) j pos) (fC (.str x)) := pe_mono pe_str fun σ H Q ⟨b, g, s, v, s', m, e, k⟩ => by cases e; exact k g H _ m Step.refl (.str x)
theorem fe_of_var {e : Expr} {i : Nat} (h : PE X e (tVar i)) : FE X e (fVar i) := pe_mono h fun σ H Q ⟨b, g, s, v, s', m, e, k⟩ => by
  unfold fVar at e
  split at e
  · rename_i t h
    cases e
    obtain ⟨V, h1, h2⟩ := m.val h
    exact ⟨V, h1, k g H V m Step.refl h2⟩
  · cases e
theorem fe_var (i : Nat) {x : Str} {pos : Pos} (hN : X.N[i]? = some x := by rfl) (hv : Vis X.env.scope x := by first | exact Or.inl rfl | exact Or.inr (Or.inl rfl) | exact Or.inr (Or.inr rfl)) (hd : (x == ("__debug__" : Str)) = false := by decide)
    (hcd : (x == ("__classdict__" : Str)) = false := by decide) : FE X (.Name x pos) (fVar i) := fe_of_var (pv i hN hv hd hcd)
/-- a constant of the module: an int, a text; a tuple of those -/
theorem fe_of_con {e : Expr} {v : V} {t : T} (h : PE X e (tC v)) (r : ∀ g H, Rep X.kx g H v t) : FE X e (fC t) := pe_mono h fun σ H Q ⟨b, g, s, v, s', m, e, k⟩ => by cases e; exact k g H _ m Step.refl (r g H)
theorem fe_globI {x : Str} {i : Int} {t : Tok} (hg : Gl X x) (hm : X.mg x = some (.int i t)) (hd : (x == ("__debug__" : Str)) = false := by decide) : FE X (.Name x pos) (fC (.int i)) := fe_of_con (v := .int i) (pe_glob hg hm ⟨_, rfl⟩ hd) fun g H => .int i
theorem fe_globS {x z : Str} {t : Tok} (hg : Gl X x) (hm : X.mg x = some (.str z t)) (hd : (x == ("__debug__" : Str)) = false := by decide) : FE X (.Name x pos) (fC (.str z)) := fe_of_con (v := .str z) (pe_glob hg hm ⟨_, rfl⟩ hd) fun g H => .str z
theorem fe_globT {x : Str} {a : Addr} {vs : List V} {ts : List T} (hg : Gl X x) (hm : X.mg x = some (.ref a)) (hs : (∀ H, SqT X.K H a vs) ∧ ∃ o, X.K.lookup a = some o ∧ o.dict = none) (r : ∀ g H, RepL X.kx g H vs ts) (hd : (x == ("__debug__" : Str)) = false := by decide) : FE X (.Name x pos) (fC (.tup ts)) :=
  fe_of_con (v := .ref a) (pe_glob hg hm rfl hd) fun g H => .tup (hs.1 H) (.inr hs.2) (r g H)
def aNil : Ea := fun s => .ok [] s
def aCons (f : Ev) (r : Ea) : Ea := fun s => (f s).bind fun t s1 => (r s1).bind fun ts s2 => .ok (t :: ts) s2
theorem fa_nil : FA X [] aNil := pa_mono pa_nil fun σ H Q ⟨b, g, s, v, s', m, e, k⟩ => by cases e; exact k g H _ m Step.refl .nil
theorem fa_cons {e : Expr} {es : List Expr} {f : Ev} {r : Ea} (ha : FE X e f) (hr : FA X es r) (hs : starEach (e :: es) X.env = (false, eval e X.env) :: starEach es X.env := by rfl) : FA X (e :: es) (aCons f r) :=
  pa_mono (pa_cons ha hr hs) fun σ H Q ⟨b, g, s, v, s', m, e, k⟩ => by
    obtain ⟨t, s1, e1, e⟩ := bind_ok e
    obtain ⟨ts, s2, e2, e⟩ := bind_ok e
    cases e
    exact ⟨b, g, s, t, s1, m, e1, fun g1 H1 V m1 t1 r1 => ⟨b, g1, s1, ts, _, m1, e2, fun g2 H2 Vs m2 t2 r2 => k g2 H2 _ m2 (t1.trans t2) (.cons (r1.step t2) r2)⟩⟩
/-- a built-in that gives a value of its arguments' values, making new things alone -/
def rOp (K : Kx) (op : T → T → Option T) : R2 := fun x y H Q => ∃ g tx ty z, (∀ a ∈ g.mu, Mut (H a)) ∧ Rep K g H x tx ∧ Rep K g H y ty ∧ op tx ty = some z ∧ ∀ V H', Ext H H' → Rep K g H' V z → Q V H'
def rUn (K : Kx) (op : T → Option T) : V → Hp → VK → Prop := fun x H Q => ∃ g tx z, (∀ a ∈ g.mu, Mut (H a)) ∧ Rep K g H x tx ∧ op tx = some z ∧ ∀ V H', Ext H H' → Rep K g H' V z → Q V H'
def rCl (K : Kx) (op : List T → Option T) : List V → Hp → VK → Prop := fun xs H Q => ∃ g ts z, (∀ a ∈ g.mu, Mut (H a)) ∧ RepL K g H xs ts ∧ op ts = some z ∧ ∀ V H', Ext H H' → Rep K g H' V z → Q V H'
/-- one that gives a new list -/
def rClF (K : Kx) (op : List T → Option (List T)) : List V → Hp → VK → Prop := fun xs H Q => ∃ g ts z, (∀ a ∈ g.mu, Mut (H a)) ∧ RepL K g H xs ts ∧ op ts = some z ∧ ∀ Vs H' p, Ext H H' → RepL K g H' Vs z → H' p = none → Q (.ref p) (upd H' p (.lst Vs))
def rOpF (K : Kx) (op : T → T → Option (List T)) : R2 := fun x y H Q => ∃ g tx ty z, (∀ a ∈ g.mu, Mut (H a)) ∧ Rep K g H x tx ∧ Rep K g H y ty ∧ op tx ty = some z ∧ ∀ Vs H' p, Ext H H' → RepL K g H' Vs z → H' p = none → Q (.ref p) (upd H' p (.lst Vs))
def ofO {α : Type} (o : Option α) (s : S) : R α := match o with
  | some a => .ok a s
  | none => .no
theorem ofO_ok {α : Type} {o : Option α} {s s' : S} {a : α} (h : ofO o s = .ok a s') : o = some a ∧ s' = s := by
  cases o with
  | none => cases h
  | some x => cases h; exact ⟨rfl, rfl⟩
def fBin (op : T → T → Option T) (f h : Ev) : Ev := fun s => (f s).bind fun x s1 => (h s1).bind fun y s2 => ofO (op x y) s2
def fBinF (op : T → T → Option (List T)) (f h : Ev) : Ea := fun s => (f s).bind fun x s1 => (h s1).bind fun y s2 => ofO (op x y) s2
def fUn (op : T → Option T) (f : Ev) : Ev := fun s => (f s).bind fun x s1 => ofO (op x) s1
def fCl (op : List T → Option T) (f : Ea) : Ev := fun s => (f s).bind fun x s1 => ofO (op x) s1
def fClF (op : List T → Option (List T)) (f : Ea) : Ea := fun s => (f s).bind fun x s1 => ofO (op x) s1
theorem tOp_of {K : Kx} {op : T → T → Option T} {f h : Ev} {σ : St} {H : Hp} {Q : VK} (q : rd K (fBin op f h) σ H Q) : tOp (rOp K op) (rd K f) (rd K h) σ H Q := by
  obtain ⟨b, g, s, v, s', m, e, k⟩ := q
  obtain ⟨x, s1, e1, e⟩ := bind_ok e
  obtain ⟨y, s2, e2, e⟩ := bind_ok e
  obtain ⟨eo, rfl⟩ := ofO_ok e
  exact ⟨b, g, s, x, s1, m, e1, fun g1 H1 V m1 t1 r1 => ⟨b, g1, s1, y, _, m1, e2, fun g2 H2 W m2 t2 r2 => ⟨g2, x, y, v, m2.muk, r1.step t2, r2, eo, fun V H' ext rV => k g2 H' V (m2.ext ext) (t1.trans (t2.trans (Step.ext ext))) rV⟩⟩⟩
theorem tOpF_of {K : Kx} {op : T → T → Option (List T)} {f h : Ev} {σ : St} {H : Hp} {Q : VK} (q : rdF K (fBinF op f h) σ H Q) : tOp (rOpF K op) (rd K f) (rd K h) σ H Q := by
  obtain ⟨b, g, s, v, s', m, e, k⟩ := q
  obtain ⟨x, s1, e1, e⟩ := bind_ok e
  obtain ⟨y, s2, e2, e⟩ := bind_ok e
  obtain ⟨eo, rfl⟩ := ofO_ok e
  exact ⟨b, g, s, x, s1, m, e1, fun g1 H1 V m1 t1 r1 => ⟨b, g1, s1, y, _, m1, e2, fun g2 H2 W m2 t2 r2 => ⟨g2, x, y, v, m2.muk, r1.step t2, r2, eo, fun V H' p ext rV hp => k _ _ V p ((m2.ext ext).hide (ho := .lst V) hp trivial) (t1.trans (t2.trans ((Step.ext ext).trans (step_new hp)))) (rV.step (step_new hp)) ((m2.ext ext).hidn' hp)⟩⟩⟩
variable {a c e : Expr} {f h : Ev} {es : List Expr} {fa : Ea}
theorem fe_bin {op : T → T → Option T} {o : Operator} (ho : OpR X (binaryOp o) (rOp X.kx op)) (ha : FE X a f) (hc : FE X c h) : FE X (.BinOp a o c pos) (fBin op f h) := pe_mono (pe_op ho ha hc) fun _ _ _ => tOp_of
theorem ff_bin {op : T → T → Option (List T)} {o : Operator} (ho : OpR X (binaryOp o) (rOpF X.kx op)) (ha : FE X a f) (hc : FE X c h) : FF X (.BinOp a o c pos) (fBinF op f h) := pe_mono (pe_op ho ha hc) fun _ _ _ => tOpF_of
theorem fe_cmp {op : T → T → Option T} {o : CmpOp} (ho : OpR X (compareOp o) (rOp X.kx op)) (ha : FE X a f) (hc : FE X c h) (hm : behindInMarks o c = false := by first | exact nobehind _ (by decide) (by decide) | rfl) : FE X (.Compare a [o] [c] pos) (fBin op f h) := pe_mono (pe_cmpR ho ha hc hm) fun _ _ _ => tOp_of
theorem fe_un {op : T → Option T} {o : UnaryOp} (ho : UnR X (unaryOp o) (rUn X.kx op)) (ha : FE X a f) : FE X (.UnaryOp o a pos) (fUn op f) := pe_mono (pe_un ho ha) fun σ H Q ⟨b, g, s, v, s', m, e, k⟩ => by
  obtain ⟨x, s1, e1, e⟩ := bind_ok e
  obtain ⟨eo, rfl⟩ := ofO_ok e
  exact ⟨b, g, s, x, _, m, e1, fun g1 H1 V m1 t1 r1 => ⟨g1, x, v, m1.muk, r1, eo, fun V H' ext rV => k g1 H' V (m1.ext ext) (t1.trans (Step.ext ext)) rV⟩⟩
theorem tCB_of {K : Kx} {op : List T → Option T} {σ : St} {H : Hp} {Q : VK} (q : rd K (fCl op fa) σ H Q) : tCB (rCl K op) (rdA K fa) σ H Q := by
  obtain ⟨b, g, s, v, s', m, e, k⟩ := q
  obtain ⟨x, s1, e1, e⟩ := bind_ok e
  obtain ⟨eo, rfl⟩ := ofO_ok e
  exact ⟨b, g, s, x, _, m, e1, fun g1 H1 V m1 t1 r1 => ⟨g1, x, v, m1.muk, r1, eo, fun V H' ext rV => k g1 H' V (m1.ext ext) (t1.trans (Step.ext ext)) rV⟩⟩
theorem tCBF_of {K : Kx} {op : List T → Option (List T)} {σ : St} {H : Hp} {Q : VK} (q : rdF K (fClF op fa) σ H Q) : tCB (rClF K op) (rdA K fa) σ H Q := by
  obtain ⟨b, g, s, v, s', m, e, k⟩ := q
  obtain ⟨x, s1, e1, e⟩ := bind_ok e
  obtain ⟨eo, rfl⟩ := ofO_ok e
  exact ⟨b, g, s, x, _, m, e1, fun g1 H1 V m1 t1 r1 => ⟨g1, x, v, m1.muk, r1, eo, fun Vs H' p ext rV hp => k _ _ Vs p ((m1.ext ext).hide (ho := .lst Vs) hp trivial) (t1.trans ((Step.ext ext).trans (step_new hp))) (rV.step (step_new hp)) ((m1.ext ext).hidn' hp)⟩⟩
variable {x : Str} {p : Pos}
theorem fe_callB {op : List T → Option T} {id : String} (hc : CallR X (.builtin id) (rCl X.kx op)) (hg : Gl X x) (hm : X.mg x = none) (hv : bootBuiltins x = some (.builtin id)) (ha : FA X (e :: es) fa) (hn : x ≠ "__name__" := by decide) (hd : (x == ("__debug__" : Str)) = false := by decide)
    (he : starEach (e :: es) X.env = (false, eval e X.env) :: starEach es X.env := by rfl) (hpl : (backTo pos (starEach es X.env)).any (·.1) = false := by rfl) : FE X (.Call (.Name x p) (e :: es) [] pos) (fCl op fa) := pe_mono (pe_callB hc hg hm hv ha hn hd he hpl) fun _ _ _ => tCB_of
theorem fe_callTy {op : List T → Option T} {id : String} (hc : CallR X (.type id) (rCl X.kx op)) (hg : Gl X x) (hm : X.mg x = none) (hv : bootBuiltins x = some (.type id)) (ha : FA X (e :: es) fa) (hn : x ≠ "__name__" := by decide) (hd : (x == ("__debug__" : Str)) = false := by decide)
    (he : starEach (e :: es) X.env = (false, eval e X.env) :: starEach es X.env := by rfl) (hpl : (backTo pos (starEach es X.env)).any (·.1) = false := by rfl) : FE X (.Call (.Name x p) (e :: es) [] pos) (fCl op fa) := pe_mono (pe_callTy hc hg hm hv ha hn hd he hpl) fun _ _ _ => tCB_of
theorem ff_callTy {op : List T → Option (List T)} {id : String} (hc : CallR X (.type id) (rClF X.kx op)) (hg : Gl X x) (hm : X.mg x = none) (hv : bootBuiltins x = some (.type id)) (ha : FA X (e :: es) fa) (hn : x ≠ "__name__" := by decide) (hd : (x == ("__debug__" : Str)) = false := by decide)
    (he : starEach (e :: es) X.env = (false, eval e X.env) :: starEach es X.env := by rfl) (hpl : (backTo pos (starEach es X.env)).any (·.1) = false := by rfl) : FF X (.Call (.Name x p) (e :: es) [] pos) (fClF op fa) := pe_mono (pe_callTy hc hg hm hv ha hn hd he hpl) fun _ _ _ => tCBF_of
end
end L2.Z
set_option Elab.async false
set_option linter.all false
set_option maxRecDepth 100000
set_option maxHeartbeats 2000000
namespace L2.Z
open PySem PySem.Spec PyProof.Rows
theorem RepL.of {K : Kx} {g : G} {H : Hp} : ∀ {vs : List V} {ts : List T}, vs.length = ts.length → (∀ (j : Nat) (v : V) (t : T), vs[j]? = some v → ts[j]? = some t → Rep K g H v t) → RepL K g H vs ts
  | [], [], _, _ => .nil
  | v :: vs, t :: ts, l, h => .cons (h 0 v t rfl rfl) (RepL.of (by simpa using l) fun j v t h1 h2 => h (j + 1) v t (by simpa using h1) (by simpa using h2))
def tE (f : Ev) : Et := fun s => (f s).bind fun t s1 => match t with
  | .bl c => .ok c s1
  | _ => .no
def tAndZ (f h : Et) : Et := fun s => (f s).bind fun c s1 => if c = true then h s1 else .ok false s1
def tOrZ (f h : Et) : Et := fun s => (f s).bind fun c s1 => if c = true then .ok true s1 else h s1
def tNotZ (f : Et) : Et := fun s => (f s).bind fun c s1 => .ok (!c) s1
def fIf (c : Et) (f h : Ev) : Ev := fun s => (c s).bind fun k s1 => if k = true then f s1 else h s1
def fAnd (f h : Ev) : Ev := fun s => (f s).bind fun t s1 => match t with
  | .bl true => h s1
  | .bl false => .ok (.bl false) s1
  | _ => .no
def fNot (f : Ev) : Ev := fun s => (f s).bind fun t s1 => match t with
  | .bl c => .ok (.bl (!c)) s1
  | _ => .no
theorem tE_ok {f : Ev} {s s' : S} {c : Bool} (h : tE f s = .ok c s') : f s = .ok (.bl c) s' := by
  obtain ⟨t, s1, e1, e⟩ := bind_ok h
  cases t <;> first | (cases e; exact e1) | cases e
section
variable {X : Cx} {pos : Pos} {a c e : Expr} {f h : Ev} {ft fu : Et} {rest : List Expr}
theorem tB_of {K : Kx} {σ : St} {H : Hp} {Q : Bool → Hp → Prop} (q : rdT K (tE f) σ H Q) : rd K f σ H fun x H' => ∃ k, x = .bl k ∧ Q k H' := by
  obtain ⟨b, g, s, c, s', m, e, k⟩ := q
  exact ⟨b, g, s, _, s', m, tE_ok e, fun g' H' V m' t' r' => ⟨c, rep_bl r', k g' H' m' t'⟩⟩
theorem ft_val (hf : FE X e f) (he : ∀ whole, isTrue e X.env whole = (do let v ← whole; standAt e.pos; holding [v] (truthy v)) := by intro _; rfl) : FT X e (tE f) := pt_mono (pt_val hf he) fun _ _ _ => tB_of
theorem ft_cmp {op : T → T → Option T} {o : CmpOp} (ho : OpR X (compareOp o) (rOp X.kx op)) (ha : FE X a f) (hc : FE X c h) (hm : behindInMarks o c = false := by first | exact nobehind _ (by decide) (by decide) | rfl) : FT X (.Compare a [o] [c] pos) (tE (fBin op f h)) :=
  pt_mono (pt_cmpR ho ha hc hm) fun σ H Q q => tOp_of (by
    obtain ⟨b, g, s, c, s', m, e, k⟩ := q
    exact ⟨b, g, s, _, s', m, tE_ok e, fun g' H' V m' t' r' => ⟨c, rep_bl r', k g' H' m' t'⟩⟩)
theorem ft_not (ha : FT X a ft) : FT X (.UnaryOp .Not a pos) (tNotZ ft) := pt_mono (pt_not ha) fun σ H Q ⟨b, g, s, c, s', m, e, k⟩ => by
  obtain ⟨x, s1, e1, e⟩ := bind_ok e
  cases e
  exact ⟨b, g, s, x, _, m, e1, fun g' H' m' t' => k g' H' m' t'⟩
theorem fw_and1 (ha : FT X a ft) : FW X (.BoolOp .And [a] pos) ft := pw_and1 ha
theorem fw_or1 (ha : FT X a ft) : FW X (.BoolOp .Or [a] pos) ft := pw_or1 ha
theorem fw_and (ha : FT X a ft) (hb : FW X (.BoolOp .And (c :: rest) pos) fu) : FW X (.BoolOp .And (a :: c :: rest) pos) (tAndZ ft fu) := pw_mono (pw_and ha hb) fun σ H Q ⟨b, g, s, c, s', m, e, k⟩ => by
  obtain ⟨x, s1, e1, e⟩ := bind_ok e
  refine ⟨b, g, s, x, s1, m, e1, fun g' H' m' t' => ?_⟩
  cases x with
  | true => exact ⟨b, g', s1, c, s', m', e, fun g2 H2 m2 t2 => k g2 H2 m2 (t'.trans t2)⟩
  | false => cases e; exact k g' H' m' t'
theorem fw_or (ha : FT X a ft) (hb : FW X (.BoolOp .Or (c :: rest) pos) fu) : FW X (.BoolOp .Or (a :: c :: rest) pos) (tOrZ ft fu) := pw_mono (pw_or ha hb) fun σ H Q ⟨b, g, s, c, s', m, e, k⟩ => by
  obtain ⟨x, s1, e1, e⟩ := bind_ok e
  refine ⟨b, g, s, x, s1, m, e1, fun g' H' m' t' => ?_⟩
  cases x with
  | true => cases e; exact k g' H' m' t'
  | false => exact ⟨b, g', s1, c, s', m', e, fun g2 H2 m2 t2 => k g2 H2 m2 (t'.trans t2)⟩
theorem ft_w (h : FW X e ft) : FT X e ft := h.pt
theorem fe_one {op} (ha : FE X a f) : FE X (.BoolOp op [a] pos) f := pe_one ha
theorem fe_and (ha : FE X a f) (hb : FE X (.BoolOp .And (c :: rest) pos) h) : FE X (.BoolOp .And (a :: c :: rest) pos) (fAnd f h) := pe_mono (pe_and ha hb) fun σ H Q ⟨b, g, s, v, s', m, e, k⟩ => by
  obtain ⟨x, s1, e1, e⟩ := bind_ok e
  refine ⟨b, g, s, x, s1, m, e1, fun g' H' V m' t' r' => ?_⟩
  cases x with
  | bl x =>
    refine ⟨x, rep_bl r', ?_⟩
    cases x with
    | true => exact ⟨b, g', s1, v, s', m', e, fun g2 H2 V2 m2 t2 r2 => k g2 H2 V2 m2 (t'.trans t2) r2⟩
    | false => cases e; exact k g' H' _ m' t' (.bl _)
  | _ => cases e
theorem fe_not (ha : FE X a f) : FE X (.UnaryOp .Not a pos) (fNot f) := pe_mono (pe_not ha) fun σ H Q ⟨b, g, s, v, s', m, e, k⟩ => by
  obtain ⟨x, s1, e1, e⟩ := bind_ok e
  refine ⟨b, g, s, x, s1, m, e1, fun g' H' V m' t' r' => ?_⟩
  cases x with
  | bl x =>
    cases e
    exact ⟨x, rep_bl r', k g' H' _ m' t' (.bl _)⟩
  | _ => cases e
theorem fe_if {d : Expr} (hc : FT X c ft) (ha : FE X a f) (hd : FE X d h) : FE X (.IfExp c a d pos) (fIf ft f h) := pe_mono (pe_ifExp hc ha hd) fun σ H Q ⟨b, g, s, v, s', m, e, k⟩ => by
  obtain ⟨x, s1, e1, e⟩ := bind_ok e
  refine ⟨b, g, s, x, s1, m, e1, fun g' H' m' t' => ?_⟩
  cases x with
  | true => exact ⟨b, g', s1, v, s', m', e, fun g2 H2 V2 m2 t2 r2 => k g2 H2 V2 m2 (t'.trans t2) r2⟩
  | false => exact ⟨b, g', s1, v, s', m', e, fun g2 H2 V2 m2 t2 r2 => k g2 H2 V2 m2 (t'.trans t2) r2⟩
/-- two comparisons in a chain -/
def fChain (op op' : T → T → Option T) (f h l : Ev) : Ev := fun s => (f s).bind fun x s1 => (h s1).bind fun y s2 => match op x y with
  | some (.bl true) => (l s2).bind fun z s3 => ofO (op' y z) s3
  | some (.bl false) => .ok (.bl false) s2
  | _ => .no
theorem tChain_of {K : Kx} {op op' : T → T → Option T} {l : Ev} {σ : St} {H : Hp} {Q : VK} (q : rd K (fChain op op' f h l) σ H Q) : tChain (rOp K op) (rOp K op') (rd K f) (rd K h) (rd K l) σ H Q := by
  obtain ⟨b, g, s, v, s', m, e, k⟩ := q
  obtain ⟨x, s1, e1, e⟩ := bind_ok e
  obtain ⟨y, s2, e2, e⟩ := bind_ok e
  refine ⟨b, g, s, x, s1, m, e1, fun g1 H1 V m1 t1 r1 => ⟨b, g1, s1, y, s2, m1, e2, fun g2 H2 W m2 t2 r2 => ?_⟩⟩
  split at e
  · rename_i eo
    obtain ⟨z, s3, e3, e⟩ := bind_ok e
    obtain ⟨e4, rfl⟩ := ofO_ok e
    refine ⟨g2, x, y, _, m2.muk, r1.step t2, r2, eo, fun V' H' ext rV => ⟨true, rep_bl rV, ?_⟩⟩
    rw [if_pos rfl]
    exact ⟨b, g2, s2, z, _, m2.ext ext, e3, fun g3 H3 V3 m3 t3 r3 => ⟨g3, y, z, v, m3.muk, r2.step ((Step.ext ext).trans t3), r3, e4, fun V4 H4 ext4 rV4 => k g3 H4 V4 (m3.ext ext4) (t1.trans (t2.trans ((Step.ext ext).trans (t3.trans (Step.ext ext4))))) rV4⟩⟩
  · rename_i eo
    cases e
    refine ⟨g2, x, y, _, m2.muk, r1.step t2, r2, eo, fun V' H' ext rV => ⟨false, rep_bl rV, ?_⟩⟩
    rw [if_neg Bool.false_ne_true]
    exact k g2 H' _ (m2.ext ext) (t1.trans (t2.trans (Step.ext ext))) (.bl _)
  · cases e
theorem fe_chain {op op' : T → T → Option T} {o o' : CmpOp} {l : Ev} {d : Expr} (ho : OpR X (compareOp o) (rOp X.kx op)) (ho' : OpR X (compareOp o') (rOp X.kx op')) (ha : FE X a f) (hc : FE X c h) (hd : FE X d l) (hm : lastMarks [o, o'] [c, d] = false := by with_unfolding_all rfl) :
    FE X (.Compare a [o, o'] [c, d] pos) (fChain op op' f h l) := pe_mono (pe_chain ho ho' ha hc hd hm) fun _ _ _ => tChain_of
theorem ft_chain {op op' : T → T → Option T} {o o' : CmpOp} {l : Ev} {d : Expr} (ho : OpR X (compareOp o) (rOp X.kx op)) (ho' : OpR X (compareOp o') (rOp X.kx op')) (ha : FE X a f) (hc : FE X c h) (hd : FE X d l) (hm : lastMarks [o, o'] [c, d] = false := by with_unfolding_all rfl) :
    FT X (.Compare a [o, o'] [c, d] pos) (tE (fChain op op' f h l)) := pt_mono (pt_chain ho ho' ha hc hd hm) fun σ H Q q => tChain_of (by
    obtain ⟨b, g, s, c, s', m, e, k⟩ := q
    exact ⟨b, g, s, _, s', m, tE_ok e, fun g' H' V m' t' r' => ⟨c, rep_bl r', k g' H' m' t'⟩⟩)
def fTup (r : Ea) : Ev := fun s => (r s).bind fun ts s1 => if ts.length ≤ 1000 then .ok (.tup ts) s1 else .no
def aLst (r : Ea) : Ea := fun s => (r s).bind fun ts s1 => if ts.length ≤ 1000 then .ok ts s1 else .no
def fLst (r : Ea) : Ev := fun s => (r s).bind fun ts s1 => .ok (.lst ts) s1
theorem le1000 {n : Nat} (h : n ≤ 1000) : n ≤ sizeLine := Nat.le_of_lt (small1000 h)
theorem fe_tup {es : List Expr} {fa : Ea} {x1} (ha : FA X es fa) : FE X (.Tuple es x1 pos) (fTup fa) := pe_mono (pe_tupZ ha) fun σ H Q ⟨b, g, s, v, s', m, e, k⟩ => by
  obtain ⟨ts, s1, e1, e⟩ := bind_ok e
  split at e
  · rename_i l
    cases e
    exact ⟨b, g, s, ts, _, m, e1, fun g' H' Vs m' t' r' => ⟨le1000 (by rw [r'.length]; exact l), fun p o hp hd => k g' _ _ (m'.ext (Ext.new hp)) (t'.trans (Step.ext (Ext.new hp))) (.new hd hp r')⟩⟩
  · cases e
theorem ff_lst {es : List Expr} {fa : Ea} (ha : FA X es fa) : FF X (.List es pos) (aLst fa) := pe_mono (pe_lst ha) fun σ H Q ⟨b, g, s, v, s', m, e, k⟩ => by
  obtain ⟨ts, s1, e1, e⟩ := bind_ok e
  split at e
  · rename_i l
    cases e
    exact ⟨b, g, s, _, _, m, e1, fun g' H' Vs m' t' r' => ⟨le1000 (by rw [r'.length]; exact l), fun p hp => k _ _ Vs p (m'.hide (ho := .lst Vs) hp trivial) (t'.trans (step_new hp)) (r'.step (step_new hp)) (m'.hidn' hp)⟩⟩
  · cases e
/-- a new list as a value that is never changed -/
theorem fe_of_ff {fa : Ea} (ha : FF X e fa) : FE X e (fLst fa) := pe_mono ha fun σ H Q ⟨b, g, s, v, s', m, e, k⟩ => by
  obtain ⟨ts, s1, e1, e⟩ := bind_ok e
  cases e
  refine ⟨b, g, s, ts, _, m, e1, fun g' H' Vs p m' t' r' hb => ?_⟩
  obtain ⟨g2, m2, t2, r2⟩ := m'.showVal hb r'
  exact k g2 _ _ m2 (t'.trans t2) r2
end
inductive Nw where
  | val (t : T) | new (o : O)
abbrev En := S → R Nw
def NEnd (K : Kx) (b : B) (g : G) (H : Hp) (σ : St) (s' : S) (Q : VK) : Nw → Prop
  | .val t => ∀ g' H' V, Sim K b g' s' σ H' → Step g H g' H' → Rep K g' H' V t → Q V H'
  | .new o => ∀ g' H' p ho, Sim K (b.hide p ho) g' s' σ H' → Step g H g' H' → SRep K g' H' p o → Hidn b p → Q (.ref p) H'
def rdN (K : Kx) (f : En) : TE := fun σ H Q => ∃ b g s n s', Sim K b g s σ H ∧ f s = .ok n s' ∧ NEnd K b g H σ s' Q n
abbrev FN (X : Cx) (e : Expr) (f : En) : Prop := PE X e (rdN X.kx f)
theorem NEnd.step {K : Kx} {b : B} {g g1 : G} {H H1 : Hp} {σ : St} {s' : S} {Q : VK} {n : Nw} (t : Step g H g1 H1) (h : NEnd K b g H σ s' Q n) : NEnd K b g1 H1 σ s' Q n := by
  cases n with
  | val v => exact fun g' H' V m' t' r' => h g' H' V m' (t.trans t') r'
  | new o => exact fun g' H' p ho m' t' r' hb => h g' H' p ho m' (t.trans t') r' hb
def nVal (f : Ev) : En := fun s => (f s).bind fun t s1 => .ok (.val t) s1
def nLst (f : Ea) : En := fun s => (f s).bind fun ts s1 => .ok (.new (.lst ts)) s1
section
variable {X : Cx} {e : Expr} {f : Ev} {fa : Ea}
theorem fn_val (h : FE X e f) : FN X e (nVal f) := pe_mono h fun σ H Q ⟨b, g, s, n, s', m, e, k⟩ => by
  obtain ⟨t, s1, e1, e⟩ := bind_ok e
  cases e
  exact ⟨b, g, s, t, _, m, e1, k⟩
theorem fn_lst (h : FF X e fa) : FN X e (nLst fa) := pe_mono h fun σ H Q ⟨b, g, s, n, s', m, e, k⟩ => by
  obtain ⟨ts, s1, e1, e⟩ := bind_ok e
  cases e
  exact ⟨b, g, s, ts, _, m, e1, fun g' H' Vs p m' t' r' hb => k g' H' p _ m' t' ⟨.lst (m'.hidn _ (List.mem_cons_self ..)).1 r', rfl⟩ hb⟩
end
def sNx : Sv := fun s => .ok .nx s
def sSeq (f h : Sv) : Sv := fun s => (f s).bind fun fl s1 => match fl with
  | .nx => h s1
  | o => .ok o s1
def sRet (f : Ev) : Sv := fun s => (f s).bind fun t s1 => .ok (.ret (.val t)) s1
/-- return x, a new thing or a value; return x, a name's own -/
def sRetN (f : En) : Sv := fun s => (f s).bind fun n s1 => match n with
  | .val t => .ok (.ret (.val t)) s1
  | .new o => .ok (.ret (.own s1.lo.length)) { s1 with lo := s1.lo ++ [o] }
def sExpr (f : Ev) : Sv := fun s => (f s).bind fun _ s1 => .ok .nx s1
def sIf (c : Et) (f h : Sv) : Sv := fun s => (c s).bind fun k s1 => if k = true then f s1 else h s1
def S.set (s : S) (i : Nat) (x : Slot) : S := { s with env := s.env.set i x }
def sSet (i : Nat) (f : Ev) : Sv := fun s => (f s).bind fun t s1 => .ok .nx (s1.set i (.val t))
def sAsg (p : Pat) (f : Ev) : Sv := fun s => (f s).bind fun t s1 => (p t s1).bind fun _ s2 => .ok .nx s2
/-- a name's own list is a value from here on -/
def S.give (s : S) (i : Nat) : Option S := match s.env[i]? with
  | some (.own n) => match s.lo[n]? with
    | some (.lst ts) => some ⟨s.env.set i (.val (.lst ts)), s.lo.set n .dead, s.st⟩
    | _ => none
  | _ => none
def sGive (i : Nat) (f : Sv) : Sv := fun s => match s.give i with
  | some s' => f s'
  | none => .no
def pName (i : Nat) : Pat := fun t s => .ok () (s.set i (.val t))
def psNil : Pats := fun ts s => match ts with
  | [] => .ok () s
  | _ => .no
def psCons (p : Pat) (q : Pats) : Pats := fun ts s => match ts with
  | t :: r => (p t s).bind fun _ s1 => q r s1
  | [] => .no
def pTup (n : Nat) (q : Pats) : Pat := fun t s => match t with
  | .tup ts => if ts.length = n then q ts s else .no
  | .pr ts => if ts.length = n then q ts s else .no
  | _ => .no
section
variable {X : Cx} {pos : Pos} {a c e : Expr} {f h : Ev} {ft fu : Et} {fa : Ea} {sf sh : Sv}
theorem SEnd.step {K : Kx} {b : B} {g g1 : G} {H H1 : Hp} {D : Ends} {s' : S} {fl : Fl} (t : Step g H g1 H1) (h : SEnd K b g H D s' fl) : SEnd K b g1 H1 D s' fl := by
  cases fl with
  | nx => exact fun g' σ' H' m' t' => h g' σ' H' m' (t.trans t')
  | ret v =>
    cases v with
    | val v => exact fun g' σ' H' V m' t' r' => h g' σ' H' V m' (t.trans t') r'
    | own n => exact fun g' σ' H' a m' t' r' => h g' σ' H' a m' (t.trans t') r'
  | bk => exact fun g' σ' H' m' t' => h g' σ' H' m' (t.trans t')
  | ct => exact fun g' σ' H' m' t' => h g' σ' H' m' (t.trans t')
theorem SEnd.rt {K : Kx} {b : B} {g : G} {H : Hp} {D D' : Ends} {s' : S} {v : Rt} (h : SEnd K b g H D s' (.ret v)) (e : D'.rt = D.rt := by rfl) : SEnd K b g H D' s' (.ret v) := by
  cases v with
  | val v => intro g' σ' H' V m' t' r'; rw [e]; exact h g' σ' H' V m' t' r'
  | own n => intro g' σ' H' a m' t' r'; rw [e]; exact h g' σ' H' a m' t' r'
theorem fss_nil : FSs X [] sNx := pss_mono pss_nil fun D σ H ⟨b, g, s, fl, s', m, e, k⟩ => by cases e; exact k g σ H m Step.refl
theorem fss_one {st : Stmt} (h : FS X st sf) : FSs X [st] sf := pss_one h
theorem tSeq_of {K : Kx} {D : Ends} {σ : St} {H : Hp} (q : rdS K (sSeq sf sh) D σ H) : tSeq (rdS K sf) (rdS K sh) D σ H := by
  obtain ⟨b, g, s, fl, s', m, e, k⟩ := q
  obtain ⟨x, s1, e1, e⟩ := bind_ok e
  refine ⟨b, g, s, x, s1, m, e1, ?_⟩
  cases x with
  | nx => exact fun g' σ' H' m' t' => ⟨b, g', s1, fl, s', m', e, k.step t'⟩
  | ret v => cases e; cases v <;> exact k
  | bk => cases e; exact k
  | ct => cases e; exact k
theorem fss_cons {st : Stmt} {rest : List Stmt} (h1 : FS X st sf) (h2 : FSs X rest sh) : FSs X (st :: rest) (sSeq sf sh) := pss_mono (pss_cons h1 h2) fun _ _ _ => tSeq_of
theorem fs_expr (he : FE X e f) (hs : swapsWith e none pos.line X.env = pure false := by rfl) : FS X (.Expr e pos) (sExpr f) := ps_mono (ps_expr he hs) fun D σ H ⟨b, g, s, fl, s', m, e, k⟩ => by
  obtain ⟨x, s1, e1, e⟩ := bind_ok e
  cases e
  exact ⟨b, g, s, x, _, m, e1, fun g' H' V m' t' r' => k g' σ H' m' t'⟩
theorem fs_ret (he : FE X e f) : FS X (.Return (some e) pos) (sRet f) := ps_mono (ps_ret he) fun D σ H ⟨b, g, s, fl, s', m, e, k⟩ => by
  obtain ⟨x, s1, e1, e⟩ := bind_ok e
  cases e
  exact ⟨b, g, s, x, _, m, e1, fun g' H' V m' t' r' => k g' σ H' V m' t' r'⟩
theorem fs_retN {fn : En} (he : FN X e fn) : FS X (.Return (some e) pos) (sRetN fn) := ps_mono (ps_ret he) fun D σ H ⟨b, g, s, fl, s', m, e, k⟩ => by
  obtain ⟨x, s1, e1, e⟩ := bind_ok e
  refine ⟨b, g, s, x, s1, m, e1, ?_⟩
  cases x with
  | val t => cases e; exact fun g' H' V m' t' r' => k g' σ H' V m' t' r'
  | new o =>
    cases e
    intro g' H' p ho m' t' r' hb
    obtain ⟨m2, t2, a2⟩ := m'.showOwn hb r'.rep
    exact k _ σ H' p m2 (t'.trans t2) a2
theorem fs_if {sa sb : List Stmt} (hc : FT X c ft) (ha : FSs X sa sf) (hb : FSs X sb sh) : FS X (.If c sa sb pos) (sIf ft sf sh) := ps_mono (ps_if hc ha hb) fun D σ H ⟨b, g, s, fl, s', m, e, k⟩ => by
  obtain ⟨x, s1, e1, e⟩ := bind_ok e
  refine ⟨b, g, s, x, s1, m, e1, fun g' H' m' t' => ?_⟩
  cases x with
  | true => exact ⟨b, g', s1, fl, s', m', e, k.step t'⟩
  | false => exact ⟨b, g', s1, fl, s', m', e, k.step t'⟩
theorem fs_set {i : Nat} {x : Str} {pos' : Pos} (hN : X.N.Nodup) (he : FE X e f) (hi : X.N[i]? = some x := by rfl) (hx : Loc X.env.scope x := by first | exact Or.inl rfl | exact Or.inr rfl) (hs : swapsWith e (some (.Name x pos')) pos.line X.env = pure false := by rfl)
    (hf : X.fn x = true ∨ X.env.scope.names.lookup x = some .local := by first | exact .inl rfl | exact .inr rfl) : FS X (.Assign [.Name x pos'] e pos) (sSet i f) := ps_mono (ps_set hN hi hx he hs hf) fun D σ H ⟨b, g, s, fl, s', m, e, k⟩ => by
  obtain ⟨x, s1, e1, e⟩ := bind_ok e
  cases e
  exact ⟨b, g, s, x, s1, m, e1, fun g' H' V m' t' r' => k g' _ H' (m'.put r') t'⟩
theorem Sim.giveSlot {K : Kx} {b : B} {g : G} {H : Hp} {σ : St} {s : S} {i : Nat} {a : Addr} {lo : List O} {t : T} (m : Sim K b g { s with lo := lo } σ H) (h : σ[i]? = some (some (.ref a))) (r : Rep K g H (.ref a) t) : Sim K b g ⟨s.env.set i (.val t), lo, s.st⟩ σ H := by
  refine m.env (by simpa using m.len) fun j x hx => ?_
  rcases getElem?_set_cases hx with ⟨rfl, rfl, _⟩ | ⟨_, hx⟩
  · exact ⟨_, h, r⟩
  · exact m.slots j x hx
theorem Sim.give {K : Kx} {b : B} {g : G} {H : Hp} {σ : St} {s s' : S} {i : Nat} (m : Sim K b g s σ H) (h : s.give i = some s') : ∃ g', Sim K b g' s' σ H ∧ Step g H g' H := by
  unfold S.give at h
  split at h
  · rename_i n hn
    obtain ⟨a, h1, h2⟩ := m.slots i _ hn
    split at h
    · rename_i ts ho
      cases h
      obtain ⟨m1, t1, r1⟩ := m.stopL h2 ho
      exact ⟨_, m1.giveSlot h1 r1, t1⟩
    · cases h
  · cases h
/-- ahead of a block a name's own list is given away -/
theorem fss_give {i : Nat} {sts : List Stmt} (h : FSs X sts sf) : FSs X sts (sGive i sf) := pss_mono h fun D σ H ⟨b, g, s, fl, s', m, e, k⟩ => by
  unfold sGive at e
  split at e
  · rename_i s1 hs
    obtain ⟨g', m', t'⟩ := m.give hs
    exact ⟨b, g', _, fl, s', m', e, k.step t'⟩
  · cases e
theorem fg_name {i : Nat} {x : Str} (hN : X.N.Nodup) (hi : X.N[i]? = some x := by rfl) (hx : Loc X.env.scope x := by first | exact Or.inl rfl | exact Or.inr rfl) (hf : X.fn x = true ∨ X.env.scope.names.lookup x = some .local := by first | exact .inl rfl | exact .inr rfl) : FG X (.Name x pos) [i] (pName i) :=
  pg_mono (pg_name hN hi hx hf) fun v σ H Q ⟨b, g, s, t, s', m, r, e, k⟩ => by
    cases e
    exact k g _ H But.set (m.put r) Step.refl
theorem fgs_nil : FGs X [] [] psNil := pgs_mono pgs_nil fun v σ H Q ⟨b, g, s, t, s', m, r, e, k⟩ => by
  cases r with
  | nil => cases e; exact ⟨rfl, k g σ H But.refl m Step.refl⟩
  | cons _ _ => cases e
theorem RepL.cons_inv {K : Kx} {g : G} {H : Hp} {vs : List V} {t : T} {ts : List T} (h : RepL K g H vs (t :: ts)) : ∃ v r, vs = v :: r ∧ Rep K g H v t ∧ RepL K g H r ts := by
  cases h with
  | cons a b => exact ⟨_, _, rfl, a, b⟩
theorem gCons_of {K : Kx} {us ws : List Nat} {p : Pat} {q : Pats} {v : List V} {σ : St} {H : Hp} {Q : St → Hp → Prop} (h : rdGs K (us ++ ws) (psCons p q) v σ H Q) : gCons (rdG K us p) (rdGs K ws q) v σ H Q := by
  obtain ⟨b, g, s, t, s', m, r, e, k⟩ := h
  cases t with
  | nil => cases e
  | cons t ts =>
    obtain ⟨v, vs, rfl, r1, r2⟩ := r.cons_inv
    obtain ⟨_, s1, e1, e⟩ := bind_ok (show (p t s).bind (fun _ s1 => q ts s1) = .ok () s' from e)
    exact ⟨v, vs, rfl, b, g, s, t, s1, m, r1, e1, fun g' σ' H' u' m' t' => ⟨b, g', s1, ts, s', m', r2.step t', e, fun g2 σ2 H2 u2 m2 t2 => k g2 σ2 H2 (u'.trans u2) m2 (t'.trans t2)⟩⟩
end
end L2.Z
set_option Elab.async false
set_option linter.all false
set_option maxRecDepth 100000
set_option maxHeartbeats 2000000
namespace L2.Z
open PySem PySem.Spec PyProof.Rows
section
variable {X : Cx} {pos : Pos} {a c e : Expr} {f h : Ev} {ft fu : Et} {fa : Ea} {sf sh : Sv} {pt : Pat} {ps : Pats} {us ws : List Nat}
theorem fgs_cons {e : Expr} {es : List Expr} (h1 : FG X e us pt) (h2 : FGs X es ws ps) (hs : (assignEach (e :: es) X.env).map (·.2) = assign e X.env :: (assignEach es X.env).map (·.2) := by rfl) : FGs X (e :: es) (us ++ ws) (psCons pt ps) := pgs_mono (pgs_cons h1 h2 hs) fun _ _ _ _ => gCons_of
theorem fg_tup {es : List Expr} {k : Nat} {n : Nat} (hc : X.calm = true) (h : FGs X es us ps) (hn : (assignEach es X.env).length = n := by rfl) (hst : (assignEach es X.env).findIdx? (·.1) = none := by rfl) : FG X (.Tuple es k pos) us (pTup n ps) :=
  pg_mono (pg_tup hc h hn hst) fun v σ H Q ⟨b, g, s, t, s', m, r, e, k⟩ => by
    cases t with
    | tup ts =>
      by_cases l : ts.length = n
      · have e : ps ts s = .ok () s' := by
          have e2 : (if ts.length = n then ps ts s else R.no) = .ok () s' := e
          rw [if_pos l] at e2
          exact e2
        cases r with
        | tup h1 _ h2 => exact ⟨_, _, rfl, h1, h2.length.trans l, b, g, s, ts, s', m, h2, e, k⟩
      · have e2 : (if ts.length = n then ps ts s else R.no) = .ok () s' := e
        rw [if_neg l] at e2
        cases e2
    | pr ts =>
      by_cases l : ts.length = n
      · have e : ps ts s = .ok () s' := by
          have e2 : (if ts.length = n then ps ts s else R.no) = .ok () s' := e
          rw [if_pos l] at e2
          exact e2
        cases r with
        | pr h1 h2 => exact ⟨_, _, rfl, h1, h2.length.trans l, b, g, s, ts, s', m, h2, e, k⟩
      · have e2 : (if ts.length = n then ps ts s else R.no) = .ok () s' := e
        rw [if_neg l] at e2
        cases e2
    | _ => cases e
theorem tAsg_of {K : Kx} {D : Ends} {σ : St} {H : Hp} (q : rdS K (sAsg pt f) D σ H) : tAsg (rd K f) (rdG K us pt) D σ H := by
  obtain ⟨b, g, s, fl, s', m, e, k⟩ := q
  obtain ⟨t, s1, e1, e⟩ := bind_ok e
  obtain ⟨_, s2, e2, e⟩ := bind_ok e
  cases e
  exact ⟨b, g, s, t, s1, m, e1, fun g' H' V m' t' r' => ⟨b, g', s1, t, _, m', r', e2, fun g2 σ2 H2 _ m2 t2 => k g2 σ2 H2 m2 (t'.trans t2)⟩⟩
theorem fs_asg {tg e : Expr} (he : FE X e f) (hg : FG X tg us pt) (hs : swapsWithSole [tg] e pos.line X.env = pure false := by rfl) (hw : swappedStores [tg] e X.env = pure none := by rfl)
    (h1 : (assignEach [tg] X.env).map (·.2) = [assign tg X.env] := by rfl) : FS X (.Assign [tg] e pos) (sAsg pt f) := ps_mono (ps_asg he hg hs hw h1) fun _ _ _ => tAsg_of
/-- a for loop's turns -/
def loopF (p : Pat) (f : Sv) : List T → Sv
  | [], s => .ok .nx s
  | t :: r, s => (p t s).bind fun _ s1 => (f s1).bind fun fl s2 => match fl with
    | .nx => loopF p f r s2
    | .ct => loopF p f r s2
    | .bk => .ok .nx s2
    | .ret v => .ok (.ret v) s2
def sFor (it : Ea) (p : Pat) (f : Sv) : Sv := fun s => (it s).bind fun ts s1 => loopF p f ts s1
theorem tFor_of {K : Kx} {D : Ends} {σ : St} {H : Hp} (q : rdS K (sFor fa pt sf) D σ H) : tFor (rdI K fa) (rdG K us pt) (rdS K sf) D σ H := by
  obtain ⟨b, g, s, fl, s', m, e, k⟩ := q
  obtain ⟨ts, s1, e1, e⟩ := bind_ok e
  refine ⟨b, g, s, ts, s1, m, e1, fun g1 H1 J m1 t1 it _ => ?_⟩
  refine ⟨fun i n σ' H' => n = ts.length - i ∧ i ≤ ts.length ∧ ∃ g2 s2, Sim K b g2 s2 σ' H' ∧ Step g1 H1 g2 H' ∧ loopF pt sf (ts.drop i) s2 = .ok fl s', ⟨_, rfl, Nat.zero_le _, g1, s1, m1, Step.refl, by simpa using e⟩, ?_⟩
  rintro i n σ2 H2 ⟨rfl, hi, g2, s2, m2, t2, e2⟩
  obtain ⟨it1, it2⟩ := it g2 H2 t2
  by_cases hl : i = ts.length
  · subst hl
    rw [List.drop_length] at e2
    cases e2
    exact .inl ⟨it2, k g2 σ2 H2 m2 (t1.trans t2)⟩
  · have hlt : i < ts.length := Nat.lt_of_le_of_ne hi hl
    have hx : ts[i]? = some ts[i] := List.getElem?_eq_getElem hlt
    rw [List.drop_eq_getElem_cons hlt] at e2
    obtain ⟨_, s3, e3, e2⟩ := bind_ok (show (pt ts[i] s2).bind (fun _ s1 => (sf s1).bind fun fl s2 => match fl with
      | .nx => loopF pt sf (ts.drop (i + 1)) s2
      | .ct => loopF pt sf (ts.drop (i + 1)) s2
      | .bk => .ok .nx s2
      | .ret v => .ok (.ret v) s2) = .ok fl s' from e2)
    obtain ⟨fl1, s4, e4, e2⟩ := bind_ok e2
    obtain ⟨go, yl⟩ := it1 i _ hx
    refine .inr ⟨go, fun σ' H' => ∃ g3 s5, Sim K b g3 s5 σ' H' ∧ Step g1 H1 g3 H' ∧ loopF pt sf (ts.drop (i + 1)) s5 = .ok fl s', fun σ' H' ⟨g3, s5, q1, q2, q3⟩ => ⟨_, ?_, rfl, hlt, g3, s5, q1, q2, q3⟩, fun x H3 hy => ?_⟩
    · omega
    · obtain ⟨ext, rx⟩ := yl x H3 hy
      have t23 : Step g2 H2 g2 H3 := Step.ext ext
      refine ⟨b, g2, s2, _, s3, m2.ext ext, rx, e3, fun g4 σ4 H4 _ m4 t4 => ⟨b, g4, s3, fl1, s4, m4, e4, ?_⟩⟩
      have tt := t2.trans (t23.trans t4)
      cases fl1 with
      | nx => exact fun g5 σ5 H5 m5 t5 => ⟨g5, s4, m5, tt.trans t5, e2⟩
      | ct => exact fun g5 σ5 H5 m5 t5 => ⟨g5, s4, m5, tt.trans t5, e2⟩
      | bk => cases e2; exact fun g5 σ5 H5 m5 t5 => k g5 σ5 H5 m5 (t1.trans (tt.trans t5))
      | ret v => cases e2; exact SEnd.step (t1.trans tt) k.rt
theorem fs_for {tg iter : Expr} {body : List Stmt} (hp : PassesOwn (model X.prog X.w) X.A X.env X.xe) (hc : X.calm = true) (hi : FI X tg iter fa) (hg : FG X tg us pt) (hb : FSs X body sf) (hs : ∀ x, foldedSetIterable iter X.env x = pure x := by intro _; rfl) : FS X (.For tg iter body [] pos) (sFor fa pt sf) :=
  ps_mono (ps_for hp hc hi hg hb hs) fun _ _ _ => tFor_of
/-- a while loop, with fuel -/
def loopW (c : Et) (f : Sv) : Nat → Sv
  | 0, _ => .no
  | n + 1, s => (c s).bind fun k s1 => if k = true then (f s1).bind fun fl s2 => match fl with
    | .nx => loopW c f n s2
    | .ct => loopW c f n s2
    | .bk => .ok .nx s2
    | .ret v => .ok (.ret v) s2
    else .ok .nx s1
def sWhile (fuel : Nat) (c : Et) (f : Sv) : Sv := loopW c f fuel
theorem tWhile_of {K : Kx} {n : Nat} {D : Ends} {σ : St} {H : Hp} (q : rdS K (sWhile n ft sf) D σ H) : tWhile (rdT K ft) (rdS K sf) D σ H := by
  obtain ⟨b, g, s, fl, s', m, e, k⟩ := q
  refine ⟨fun n σ' H' => ∃ g2 s2, Sim K b g2 s2 σ' H' ∧ Step g H g2 H' ∧ loopW ft sf n s2 = .ok fl s', ⟨n, g, s, m, Step.refl, e⟩, ?_⟩
  rintro n σ2 H2 ⟨g2, s2, m2, t2, e2⟩
  cases n with
  | zero => cases e2
  | succ n =>
    obtain ⟨kk, s3, e3, e2⟩ := bind_ok (show (ft s2).bind (fun k s1 => if k = true then (sf s1).bind fun fl s2 => match fl with
      | .nx => loopW ft sf n s2
      | .ct => loopW ft sf n s2
      | .bk => .ok .nx s2
      | .ret v => .ok (.ret v) s2
      else .ok .nx s1) = .ok fl s' from e2)
    refine ⟨b, g2, s2, kk, s3, m2, e3, fun g3 H3 m3 t3 => ?_⟩
    cases kk with
    | false => 
      rw [if_neg Bool.false_ne_true] at e2 ⊢
      cases e2
      exact k g3 σ2 H3 m3 (t2.trans t3)
    | true =>
      rw [if_pos rfl] at e2 ⊢
      obtain ⟨fl1, s4, e4, e2⟩ := bind_ok e2
      refine ⟨fun σ' H' => ∃ g4 s5, Sim K b g4 s5 σ' H' ∧ Step g H g4 H' ∧ loopW ft sf n s5 = .ok fl s', fun σ' H' q => ⟨n, Nat.lt_succ_self n, q⟩, b, g3, s3, fl1, s4, m3, e4, ?_⟩
      have tt := t2.trans t3
      cases fl1 with
      | nx => exact fun g5 σ5 H5 m5 t5 => ⟨g5, s4, m5, tt.trans t5, e2⟩
      | ct => exact fun g5 σ5 H5 m5 t5 => ⟨g5, s4, m5, tt.trans t5, e2⟩
      | bk => cases e2; exact fun g5 σ5 H5 m5 t5 => k g5 σ5 H5 m5 (tt.trans t5)
      | ret v => cases e2; exact SEnd.step tt k.rt
theorem fs_while {n : Nat} {body : List Stmt} (hp : PassesOwn (model X.prog X.w) X.A X.env X.xe) (hc : FT X c ft) (hb : FSs X body sf) : FS X (.While c body [] pos) (sWhile n ft sf) := ps_mono (ps_while hp hc hb) fun _ _ _ => tWhile_of
end
section
variable {X : Cx} {pos : Pos} {tg e : Expr} {f h : Ev} {fa : Ea}
def iLst (f : Ev) : Ea := fun s => (f s).bind fun t s1 => match t with
  | .lst ts => .ok ts s1
  | _ => .no
def iTp (f : Ev) : Ea := fun s => (f s).bind fun t s1 => match t with
  | .tup ts => .ok ts s1
  | _ => .no
theorem rep_lst {K : Kx} {g : G} {H : Hp} {V : V} {ts : List T} (h : Rep K g H V (.lst ts)) : ∃ a vs, V = .ref a ∧ SqL K.K H a vs ∧ RepL K g H vs ts := by
  cases h with
  | lst h1 h2 h3 => exact ⟨_, _, rfl, SqL.of h1, h3⟩
  | lstF h1 h2 =>
    refine ⟨_, _, rfl, ?_, h2⟩
    rcases h1 with ⟨o, h1⟩ | h1
    · exact .inl (.inr ⟨o, h1⟩)
    · exact .inr h1
theorem rep_tup {K : Kx} {g : G} {H : Hp} {V : V} {ts : List T} (h : Rep K g H V (.tup ts)) : ∃ a vs, V = .ref a ∧ SqT K.K H a vs ∧ RepL K g H vs ts := by
  cases h with
  | tup h1 _ h2 => exact ⟨_, _, rfl, h1, h2⟩
theorem rep_tupN {K : Kx} {g : G} {H : Hp} {V : V} {ts : List T} (h : Rep K g H V (.tup ts)) : ∃ a vs, V = .ref a ∧ SqT K.K H a vs ∧ ND K.K H a ∧ RepL K g H vs ts := by
  cases h with
  | tup h1 n h2 => exact ⟨_, _, rfl, h1, n, h2⟩
theorem rep_pr {K : Kx} {g : G} {H : Hp} {V : V} {ts : List T} (h : Rep K g H V (.pr ts)) : ∃ a vs, V = .ref a ∧ SqT K.K H a vs ∧ RepL K g H vs ts := by
  cases h with
  | pr h1 h2 => exact ⟨_, _, rfl, h1, h2⟩
theorem itOk_lst {K : Kx} {g : G} {H : Hp} {a : Addr} {ts : List T} (h : Rep K g H (.ref a) (.lst ts)) : ItOk K g H (Itl K.K a) ts := fun g1 H1 t => by
  obtain ⟨a', vs, e, h1, h2⟩ := rep_lst (h.step t)
  cases e
  refine ⟨fun i x hx => ?_, vs, h1, Nat.le_of_eq h2.length⟩
  obtain ⟨v, hv, rv⟩ := h2.get hx
  refine ⟨⟨vs, v, h1, hv⟩, ?_⟩
  rintro y H2 ⟨rfl, hy⟩
  have := hy vs h1
  rw [hv] at this
  cases this
  exact ⟨Ext.refl _, rv⟩
theorem itOk_tup {K : Kx} {g : G} {H : Hp} {a : Addr} {ts : List T} (h : Rep K g H (.ref a) (.tup ts)) : ItOk K g H (Itt K.K a) ts := fun g1 H1 t => by
  obtain ⟨a', vs, e, h1, h2⟩ := rep_tup (h.step t)
  cases e
  refine ⟨fun i x hx => ?_, vs, h1, Nat.le_of_eq h2.length⟩
  obtain ⟨v, hv, rv⟩ := h2.get hx
  refine ⟨⟨vs, v, h1, hv⟩, ?_⟩
  rintro y H2 ⟨rfl, hy⟩
  have := hy vs h1
  rw [hv] at this
  cases this
  exact ⟨Ext.refl _, rv⟩
/-- where an iterator has come, all tracked lists and tuples are short enough -/
theorem pi_fit {wi : TI} (hp : PI X tg e wi) : PI X tg e (fun σ H Rr => wi σ H fun J H1 => (∀ a xs, SqL X.K H1 a xs → xs.length ≤ sizeLine) → (∀ a xs, SqT X.K H1 a xs → xs.length ≤ sizeLine) → Rr J H1) :=
  ⟨fun pins s σ H Rr I q => thn (hp.run pins s σ H _ I q) fun v s1 h => thn h fun it s2 ⟨i, fp, tn, J, H', e1, I1, t1, t2, t3, r⟩ => ⟨i, fp, tn, J, H', e1, I1, t1, t2, t3, r (fun a xs h => by obtain ⟨_, _, _, z⟩ := I1.list h; exact z) (fun a xs h => by obtain ⟨_, _, _, z⟩ := I1.tuple h; exact z)⟩⟩
theorem fi_lst (he : FE X e f) : FI X tg e (iLst f) := pi_mono (pi_fit (pi_list he)) fun σ H Rr ⟨b, g, s, vs, s', m, e, k⟩ => by
  obtain ⟨t, s1, e1, e⟩ := bind_ok e
  cases t with
  | lst ts =>
    cases e
    refine ⟨b, g, s, _, _, m, e1, fun g1 H1 V m1 t1 r1 => ?_⟩
    obtain ⟨a, us, rfl, h1, h2⟩ := rep_lst r1
    exact ⟨a, rfl, ⟨us, h1⟩, fun z _ => k g1 H1 _ m1 t1 (itOk_lst r1) (by rw [← h2.length]; exact z _ _ h1)⟩
  | _ => cases e
theorem fi_tup (he : FE X e f) : FI X tg e (iTp f) := pi_mono (pi_fit (pi_tup he)) fun σ H Rr ⟨b, g, s, vs, s', m, e, k⟩ => by
  obtain ⟨t, s1, e1, e⟩ := bind_ok e
  cases t with
  | tup ts =>
    cases e
    refine ⟨b, g, s, _, _, m, e1, fun g1 H1 V m1 t1 r1 => ?_⟩
    obtain ⟨a, us, rfl, h1, h2⟩ := rep_tup r1
    exact ⟨a, rfl, ⟨us, h1⟩, fun _ z => k g1 H1 _ m1 t1 (itOk_tup r1) (by rw [← h2.length]; exact z _ _ h1)⟩
  | _ => cases e
/-- range(n), range(a, b) -/
def rngT (lo : Int) (n : Nat) : List T := (List.range n).map fun (i : Nat) => .int (lo + (i : Int))
theorem itOk_rng {K : Kx} {g : G} {H : Hp} {lo : Int} {n : Nat} : ItOk K g H (Itr lo n) (rngT lo n) := fun g1 H1 t => by
  refine ⟨fun i x hx => ?_, by simp [rngT, Itr]⟩
  unfold rngT at hx
  rw [List.getElem?_map] at hx
  cases q : (List.range n)[i]? with
  | none => rw [q] at hx; cases hx
  | some j =>
    rw [q] at hx
    cases hx
    obtain ⟨h1, h2⟩ := List.getElem?_eq_some_iff.mp q
    rw [List.getElem_range] at h2
    subst h2
    refine ⟨(by show i < n; simpa using h1), ?_⟩
    rintro y H2 ⟨rfl, rfl⟩
    exact ⟨Ext.refl _, .int _⟩
def rngOk (j : Int) : Prop := -1000000 ≤ j ∧ j ≤ 1000000
instance (j : Int) : Decidable (rngOk j) := inferInstanceAs (Decidable (_ ∧ _))
theorem rngT_fit {i j : Int} (hi : rngOk i) (hj : rngOk j) : (rngT i (j - i).toNat).length ≤ sizeLine := by
  obtain ⟨h1, h2⟩ := hi
  obtain ⟨h3, h4⟩ := hj
  rw [sizeLine_eq]
  simp only [rngT, List.length_map, List.length_range]
  omega
theorem rngOk62 {j : Int} (h : rngOk j) : -(2 ^ 62) ≤ j ∧ j < 2 ^ 62 := by
  obtain ⟨h1, h2⟩ := h
  have z : (2 : Int) ^ 62 = 4611686018427387904 := by decide
  rw [z]
  omega
def iRng1 (fa : Ea) : Ea := fun s => (fa s).bind fun ts s1 => match ts with
  | [.int j] => if rngOk j then .ok (rngT 0 j.toNat) s1 else .no
  | _ => .no
theorem repL_one {K : Kx} {g : G} {H : Hp} {Vs : List V} {x : T} (h : RepL K g H Vs [x]) : ∃ v, Vs = [v] ∧ Rep K g H v x := by
  obtain ⟨v, r, rfl, h1, h2⟩ := h.cons_inv
  cases h2
  exact ⟨v, rfl, h1⟩
theorem repL_two {K : Kx} {g : G} {H : Hp} {Vs : List V} {x y : T} (h : RepL K g H Vs [x, y]) : ∃ v w, Vs = [v, w] ∧ Rep K g H v x ∧ Rep K g H w y := by
  obtain ⟨v, r, rfl, h1, h2⟩ := h.cons_inv
  obtain ⟨w, rfl, h3⟩ := repL_one h2
  exact ⟨v, w, rfl, h1, h3⟩
theorem fi_range1 {a : Expr} {p : Pos} (hg : Gl X "range") (hm : X.mg "range" = none) (ha : FA X [a] fa) (hs : starEach [a] X.env = [(false, eval a X.env)] := by rfl) : FI X tg (.Call (.Name "range" p) [a] [] pos) (iRng1 fa) :=
  pi_mono (pi_range1 hg hm ha hs) fun σ H Rr ⟨b, g, s, vs, s', m, e, k⟩ => by
    obtain ⟨ts, s1, e1, e⟩ := bind_ok e
    split at e
    · rename_i j
      split at e
      · rename_i hj
        cases e
        refine ⟨b, g, s, _, _, m, e1, fun g1 H1 Vs m1 t1 r1 => ?_⟩
        obtain ⟨v, rfl, r⟩ := repL_one r1
        cases r
        exact ⟨j, rfl, (rngOk62 hj).1, (rngOk62 hj).2, k g1 H1 _ m1 t1 itOk_rng (by have := rngT_fit (i := 0) (by decide) hj; rw [Int.sub_zero] at this; exact this)⟩
      · cases e
    · cases e
end
section
variable {X : Cx} {pos : Pos} {tg e iter elt : Expr} {f h : Ev} {fa : Ea} {ft : Et} {pt : Pat}
abbrev FTs (X : Cx) (ifs : List Expr) (f : Et) : Prop := PTs X ifs (rdT X.kx f)
def tTrue : Et := fun s => .ok true s
theorem fts_nil : FTs X [] tTrue := ⟨fun pins s σ H Q I ⟨b, g, s1, c, s', m, e, k⟩ => by cases e; exact pts_nil.run pins s σ H Q I (k g H m Step.refl)⟩
theorem fts_one {c : Expr} (h : FT X c ft) : FTs X [c] ft := pts_one h
/-- the block's own names have no value at a turn's start -/
def wipeE (env : List Slot) : List Nat → List Slot
  | [] => env
  | v :: vs => (wipeE env vs).set v .un
def S.wipe (s : S) (vs : List Nat) : S := { s with env := wipeE s.env vs }
def loopC (p : Pat) (c : Et) (f : Ev) (vs : List Nat) : List T → Ea
  | [], s => .ok [] s
  | t :: r, s => (p t (s.wipe vs)).bind fun _ s1 => (c s1).bind fun k s2 => if k = true then (f s2).bind fun y s3 => (loopC p c f vs r s3).bind fun ys s4 => .ok (y :: ys) s4 else loopC p c f vs r s2
/-- behind the block its names are again what they were ahead of it -/
def keepV : Option Slot → Slot
  | some x => x
  | none => .un
def restE (old new : List Slot) : List Nat → List Slot
  | [] => new
  | v :: vs => (restE old new vs).set v (keepV old[v]?)
def S.rest (s old : S) (vs : List Nat) : S := { s with env := restE old.env s.env vs }
def aLc (it : Ea) (p : Pat) (c : Et) (f : Ev) (vs : List Nat) : Ea := fun s => (it s).bind fun ts s1 => (loopC p c f vs ts s1).bind fun ys s2 => .ok ys (s2.rest s1 vs)
theorem restE_length (old new : List Slot) : ∀ vs : List Nat, (restE old new vs).length = new.length
  | [] => rfl
  | v :: vs => by simp [restE, restE_length old new vs]
theorem restE_get {old new : List Slot} : ∀ {vs : List Nat} {i : Nat} {x : Slot}, (restE old new vs)[i]? = some x → (x = keepV old[i]? ∧ i ∈ vs) ∨ (i ∉ vs ∧ new[i]? = some x)
  | [], i, x, h => .inr ⟨by simp, h⟩
  | v :: vs, i, x, h => by
    have h : ((restE old new vs).set v (keepV old[v]?))[i]? = some x := h
    rcases getElem?_set_cases h with ⟨rfl, rfl, _⟩ | ⟨ne, h⟩
    · exact .inl ⟨rfl, List.mem_cons_self ..⟩
    · rcases restE_get h with ⟨h1, h2⟩ | ⟨h1, h2⟩
      · exact .inl ⟨h1, List.mem_cons_of_mem _ h2⟩
      · exact .inr ⟨fun z => (List.mem_cons.mp z).elim (fun q => ne q.symm) h1, h2⟩
theorem Sim.rest {K : Kx} {b b' : B} {g g' : G} {s s' : S} {σ σ' : St} {H H' : Hp} {vs : List Nat} (m : Sim K b g s σ H) (m' : Sim K b' g' s' σ' H') (t : Step g H g' H') (hl : σ'.length = σ.length) (h : ∀ i : Nat, i ∉ vs → σ'[i]? = σ[i]?) : Sim K b' g' (s'.rest s vs) σ H' := by
  refine m'.env (by show (restE s.env s'.env vs).length = σ.length; rw [restE_length, ← hl]; exact m'.len) fun j x e => ?_
  rcases restE_get (show (restE s.env s'.env vs)[j]? = some x from e) with ⟨rfl, _⟩ | ⟨q1, q2⟩
  · cases hy : s.env[j]? with
    | none => trivial
    | some y => exact (m.slots j y hy).step t
  · rw [← h j q1]
    exact m'.slots j x q2
theorem wipeE_length (env : List Slot) : ∀ vs : List Nat, (wipeE env vs).length = env.length
  | [] => rfl
  | v :: vs => by simp [wipeE, wipeE_length env vs]
theorem wipeE_get {env : List Slot} : ∀ {vs : List Nat} {i : Nat} {x : Slot}, (wipeE env vs)[i]? = some x → (x = .un ∧ i ∈ vs) ∨ (i ∉ vs ∧ env[i]? = some x)
  | [], i, x, h => .inr ⟨by simp, h⟩
  | v :: vs, i, x, h => by
    have h : ((wipeE env vs).set v .un)[i]? = some x := h
    rcases getElem?_set_cases h with ⟨rfl, rfl, _⟩ | ⟨ne, h⟩
    · exact .inl ⟨rfl, List.mem_cons_self ..⟩
    · rcases wipeE_get h with ⟨h1, h2⟩ | ⟨h1, h2⟩
      · exact .inl ⟨h1, List.mem_cons_of_mem _ h2⟩
      · exact .inr ⟨fun z => (List.mem_cons.mp z).elim (fun q => ne q.symm) h1, h2⟩
theorem wipe_get {σ : St} : ∀ {vs : List Nat} {i : Nat}, i ∉ vs → (wipe σ vs)[i]? = σ[i]?
  | [], _, _ => rfl
  | v :: vs, i, h => by
    show ((wipe σ vs).set v none)[i]? = σ[i]?
    rw [List.getElem?_set_ne (show v ≠ i from fun z => h (by rw [z]; exact List.mem_cons_self ..)), wipe_get fun z => h (List.mem_cons_of_mem _ z)]
/-- the block's names forgotten, over slots that are alike but there -/
theorem Sim.wipe {K : Kx} {b : B} {g : G} {s : S} {σ σ' : St} {H : Hp} {vs : List Nat} (m : Sim K b g s σ H) (hl : σ'.length = σ.length) (h : ∀ i : Nat, i ∉ vs → σ'[i]? = σ[i]?) : Sim K b g (s.wipe vs) σ' H := by
  refine m.env (by show (wipeE s.env vs).length = σ'.length; rw [wipeE_length, hl]; exact m.len) fun j x e => ?_
  rcases wipeE_get (show (wipeE s.env vs)[j]? = some x from e) with ⟨rfl, _⟩ | ⟨q1, q2⟩
  · trivial
  · rw [h j q1]
    exact m.slots j x q2
theorem wipe_len (σ : St) : ∀ vs : List Nat, (L2.wipe σ vs).length = σ.length
  | [] => rfl
  | v :: vs => by simp [L2.wipe, wipe_len σ vs]
theorem wipe_in {σ : St} : ∀ {vs : List Nat} {i : Nat}, i ∈ vs → i < σ.length → (L2.wipe σ vs)[i]? = some none
  | v :: vs, i, h, l => by
    show ((L2.wipe σ vs).set v none)[i]? = some none
    by_cases e : v = i
    · subst e
      exact List.getElem?_set_self (by rw [wipe_len]; exact l)
    · rw [List.getElem?_set_ne e]
      exact wipe_in ((List.mem_cons.mp h).resolve_left fun q => e q.symm) l
theorem wipe_eq {σ τ : St} {vs : List Nat} (hl : τ.length = σ.length) (h : ∀ i : Nat, i ∉ vs → τ[i]? = σ[i]?) : L2.wipe τ vs = L2.wipe σ vs := by
  refine List.ext_getElem? fun i => ?_
  by_cases hi : i ∈ vs
  · by_cases l : i < σ.length
    · rw [wipe_in hi l, wipe_in hi (by rw [hl]; exact l)]
    · rw [List.getElem?_eq_none (by rw [wipe_len, hl]; omega), List.getElem?_eq_none (by rw [wipe_len]; omega)]
  · rw [wipe_get hi, wipe_get hi, h i hi]
theorem tLc_of {K : Kx} {us vs : List Nat} {σ : St} {H : Hp} {Q : VK} (hv : ∀ i ∈ us, i ∈ vs) (q : rdF K (aLc fa pt ft f vs) σ H Q) : tLc (rdI K fa) (rdG K us pt) (rdT K ft) (rd K f) vs σ H Q := by
  obtain ⟨b, g, s, ys, s', m, e, k⟩ := q
  obtain ⟨ts, s1, e1, e⟩ := bind_ok e
  obtain ⟨zs, s2, e2, e⟩ := bind_ok e
  cases e
  refine ⟨b, g, s, ts, s1, m, e1, fun g1 H1 J m1 t1 it fit D hD => ?_⟩
  have mD := m1.hide (ho := .lst []) hD trivial
  have hbD := m1.hidn' hD
  have tD : Step g1 H1 { g1 with mu := D :: g1.mu } (upd H1 D (.lst [])) := step_new hD
  -- behind i turns: the list holds Vs for xs, the rest of ys comes of the rest of ts
  refine ⟨fun i n H' => n = ts.length - i ∧ i ≤ ts.length ∧ ∃ g3 s3 σ3 Vs xs rs, Sim K (b.hide D (.lst Vs)) g3 s3 σ3 H' ∧ (σ3.length = σ.length ∧ ∀ i : Nat, i ∉ vs → σ3[i]? = σ[i]?) ∧ Step g1 H1 g3 H' ∧ RepL K g3 H' Vs xs ∧ xs ++ rs = ys ∧ loopC pt ft f vs (ts.drop i) s3 = .ok rs s2 ∧ xs.length ≤ i,
    ⟨_, rfl, Nat.zero_le _, _, s1, σ, [], [], ys, mD, ⟨rfl, fun _ _ => rfl⟩, tD, .nil, rfl, by simpa using e2, Nat.zero_le _⟩, ?_⟩
  rintro i n H2 ⟨rfl, hi, g3, s3, σ3, Vs, xs, rs, m3, ⟨l3, o3⟩, t3, r3, rfl, e3, lx⟩
  obtain ⟨it1, it2⟩ := it g3 H2 t3
  by_cases hl : i = ts.length
  · subst hl
    rw [List.drop_length] at e3
    cases e3
    refine .inl ⟨it2, ?_⟩
    rw [List.append_nil] at k
    exact k g3 H2 Vs D (m1.rest m3 t3 l3 fun i hi => o3 i hi) (t1.trans t3) r3 hbD
  · have hlt : i < ts.length := Nat.lt_of_le_of_ne hi hl
    have hx : ts[i]? = some ts[i] := List.getElem?_eq_getElem hlt
    rw [List.drop_eq_getElem_cons hlt] at e3
    obtain ⟨_, s4, e4, e3⟩ := bind_ok (show (pt ts[i] (s3.wipe vs)).bind (fun _ s1 => (ft s1).bind fun k s2 => if k = true then (f s2).bind fun y s3 => (loopC pt ft f vs (ts.drop (i + 1)) s3).bind fun ys s4 => .ok (y :: ys) s4 else loopC pt ft f vs (ts.drop (i + 1)) s2) = .ok rs s2 from e3)
    obtain ⟨kk, s5, e5, e3⟩ := bind_ok e3
    obtain ⟨go, yl⟩ := it1 i _ hx
    refine .inr ⟨go, fun H' => ∃ g3 s3 σ3 Vs' xs' rs', Sim K (b.hide D (.lst Vs')) g3 s3 σ3 H' ∧ (σ3.length = σ.length ∧ ∀ i : Nat, i ∉ vs → σ3[i]? = σ[i]?) ∧ Step g1 H1 g3 H' ∧ RepL K g3 H' Vs' xs' ∧ xs' ++ rs' = xs ++ rs ∧ loopC pt ft f vs (ts.drop (i + 1)) s3 = .ok rs' s2 ∧ xs'.length ≤ i + 1,
      fun H' ⟨g3, s3, σ3, Vs', xs', rs', q1, q2, q3, q4, q5, q6, q7⟩ => ⟨_, by omega, rfl, hlt, g3, s3, σ3, Vs', xs', rs', q1, q2, q3, q4, q5, q6, q7⟩, fun x H3 hy => ?_⟩
    obtain ⟨ext, rx⟩ := yl x H3 hy
    have t23 : Step g3 H2 g3 H3 := Step.ext ext
    have m4 : Sim K (b.hide D (.lst Vs)) g3 (s3.wipe vs) (L2.wipe σ vs) H3 := (m3.ext ext).wipe (by rw [wipe_len, l3]) fun j hj => by rw [wipe_get hj, o3 j hj]
    refine ⟨_, g3, _, _, s4, m4, rx, e4, fun g5 σ5 H5 u5 m5 t5 => ?_⟩
    have o5 : σ5.length = σ.length ∧ ∀ i : Nat, i ∉ vs → σ5[i]? = σ[i]? := ⟨by rw [u5.1, wipe_len], fun j hj => by rw [u5.2 j fun q => hj (hv j q), wipe_get hj]⟩
    refine ⟨wipe_eq o5.1 o5.2, _, g5, s4, kk, s5, m5, e5, fun g6 H6 m6 t6 => ?_⟩
    have tt : Step g1 H1 g6 H6 := t3.trans (t23.trans (t5.trans t6))
    cases kk with
    | false =>
      rw [if_neg Bool.false_ne_true] at e3
      refine iteF ?_
      exact ⟨g6, s5, σ5, Vs, xs, rs, m6, o5, tt, r3.step (t23.trans (t5.trans t6)), rfl, e3, Nat.le_succ_of_le lx⟩
    | true =>
      rw [if_pos rfl] at e3
      refine iteT ?_
      obtain ⟨y, s7, e7, e3⟩ := bind_ok e3
      obtain ⟨rs', s8, e8, e3⟩ := bind_ok e3
      cases e3
      refine ⟨_, g6, s5, y, s7, m6, e7, fun g7 H7 V7 m7 t7 r7 => ?_⟩
      have hD7 := (m7.hidn (D, .lst Vs) (List.mem_cons_self ..)).1
      obtain ⟨m8, t8⟩ := m7.grow (ho' := .lst (Vs ++ [V7])) trivial hbD
      have r37 : RepL K g7 H7 Vs xs := r3.step (t23.trans (t5.trans (t6.trans t7)))
      refine ⟨Vs, hD7, ?_, g7, s7, σ5, Vs ++ [V7], xs ++ [y], rs', m8, o5, tt.trans (t7.trans t8), (r37.append (.cons r7 .nil)).step t8, by simp, e8, by simpa using lx⟩
      rw [r37.length]
      exact Nat.lt_of_le_of_lt lx (Nat.lt_of_lt_of_le hlt fit)
/-- a list comprehension -/
theorem ff_lc {scope : Scope} {own : List (Str × Nat)} {us : List Nat} (hc : X.calm = true) (hN : X.N.Nodup) (hi : FI X tg iter fa) (ok : BlkOk X.N X.env.scope scope own) {ifs : List Expr}
    (hg : ∀ (s : Shared) (H : Hp) (C : Addr) (cl : List (Str × Addr)) (fp : List Addr), FG (X.blk s H scope (compEnvC scope cl C X.env) fp) tg us pt) (ht : ∀ (s : Shared) (H : Hp) (C : Addr) (cl : List (Str × Addr)) (fp : List Addr), FTs (X.blk s H scope (compEnvC scope cl C X.env) fp) ifs ft)
    (he : ∀ (s : Shared) (H : Hp) (C : Addr) (cl : List (Str × Addr)) (fp : List Addr), FE (X.blk s H scope (compEnvC scope cl C X.env) fp) elt f) (hv : (us.all fun i => (own.map (·.2)).contains i) = true := by rfl) (hs : ∀ x, foldedSetIterable iter X.env x = pure x := by intro _; rfl) :
    FF X (.ListComp elt [⟨tg, iter, ifs, 0⟩] scope pos) (aLc fa pt ft f (own.map (·.2))) :=
  pe_mono (pe_lc hc hN hi ok hg ht he hs) fun _ _ _ q => tLc_of (fun i hi => by simpa using List.all_eq_true.mp hv i hi) q
end
end L2.Z
set_option Elab.async false
set_option linter.all false
set_option maxRecDepth 100000
set_option maxHeartbeats 2000000
namespace L2.Z
open PySem PySem.Spec PyProof.Rows
/-- a def as a plain function of its arguments and the store -/
abbrev Fd := List T → List O → R Nw
def CEnd (K : Kx) (g : G) (H : Hp) (Q : VK) (s' : S) : Nw → Prop
  | .val v => ∀ g' H' V s2 σ2, Sim K ⟨g.call, H, []⟩ g' s2 σ2 H' → s2.st = s'.st → Rep K g' H' V v → Q V H'
  | .new o => ∀ (g' : G) (H' : Hp) (a : Addr) (n : Nat) (s2 : S) (σ2 : St), Sim K ⟨g.call, H, []⟩ g' s2 σ2 H' → s2.st = s'.st → g'.lam[n]? = some a → s2.lo[n]? = some o → o.free = true → Q (.ref a) H'
def spI (K : Kx) (n : Nat) (F : Fd) : Sp := fun vs H Q E => vs.length = n ∧ ∃ b g s σ ts v s', Sim K b g s σ H ∧ RepL K g H vs ts ∧ F ts s.st = .ok v s' ∧ CEnd K g H Q s' v
/-- a body as such a function: np parameters, nn names -/
def mkF (np nn : Nat) (f : Sv) : Fd := fun ts st => if ts.length = np then match f ⟨ts.map Slot.val ++ List.replicate (nn - np) Slot.un, [], st⟩ with
  | .ok (.ret (.val v)) s => .ok (.val v) s
  | .ok (.ret (.own n)) s => match s.lo[n]? with
    | some o => if o.free = true then .ok (.new o) s else .no
    | none => .no
  | .ok .nx s => .ok (.val .non) s
  | .exc e s => .exc e s
  | _ => .no
  else .no
section
variable {K : Kx}
theorem RepL.slots {g : G} {H : Hp} : ∀ {vs : List V} {ts : List T} {i : Nat} {e : Slot}, RepL K g H vs ts → (ts.map Slot.val)[i]? = some e → ∃ t v, e = .val t ∧ (vs.map some)[i]? = some (some v) ∧ Rep K g H v t
  | _, _, i, e, r, h => by
    rw [List.getElem?_map] at h
    cases q : (‹List T›)[i]? with
    | none => rw [q] at h; cases h
    | some t =>
      rw [q] at h
      cases h
      obtain ⟨v, h1, h2⟩ := r.get q
      exact ⟨t, v, rfl, by rw [List.getElem?_map, h1]; rfl, h2⟩
theorem Sim.start {b : B} {g : G} {s : S} {σ : St} {H : Hp} {N : List Str} {vs : List V} {ts : List T} (m : Sim K b g s σ H) (r : RepL K g H vs ts) (np : Nat) (hn : ts.length = np) (hl : np ≤ N.length) :
    Sim K ⟨g.call, H, []⟩ g.call ⟨ts.map Slot.val ++ List.replicate (N.length - np) Slot.un, [], s.st⟩ (L2.start N vs) H := by
  have lv := r.length
  have r := repL_same (g := g) (g' := g.call) rfl rfl r
  refine ⟨m.muk, m.rmu, m.rnd, m.stl, fun n a o h1 h2 => m.to_call h1 h2, List.nodup_nil, rfl, fun n a o h => by simp [G.call] at h, fun a h => by simp [G.call] at h, ?_, fun i e h => ?_, fun a h => ⟨h, fun z => ?_⟩, Step.refl, fun a o h _ => h, fun a h n => absurd h n, fun p h => by cases h⟩
  · show (ts.map Slot.val ++ List.replicate (N.length - np) Slot.un).length = (L2.start N vs).length
    simp [L2.start, lv, hn]
  · have h : (ts.map Slot.val ++ List.replicate (N.length - np) Slot.un)[i]? = some e := h
    rw [List.getElem?_append] at h
    split at h
    · rename_i l
      obtain ⟨t, v, rfl, h1, h2⟩ := r.slots h
      refine ⟨v, ?_, h2⟩
      show (vs.map some ++ _)[i]? = _
      rw [List.getElem?_append_left (by simpa [lv] using l)]
      exact h1
    · have := List.eq_of_mem_replicate (List.mem_of_getElem? h)
      subst this
      trivial
  · have := m.muk a h
    rw [show H a = none from z] at this
    exact this
end
/-- the def at f is this plain function, called where no repr runs -/
structure FnG (P : Program) (w : World) (K : PySem.W.Frag) (mg : Str → Option Value) (base : Heap) (k : Nat) (f : Addr) (fd : FuncData) (ps : List Str) (F : Fd) : Prop where
  run : ∀ (A : Around) (outer : List Env) (s : Shared) (H : Hp) (args : Args) (us : List Value) (vs : List V) (Q : VK) (E : XK), A.guards = some [] → Room k A → Env0 P w K mg base A outer s H → BindsTo s fd args (ps.zip us) → Vals vs us →
    spI ⟨K, P, w⟩ ps.length F vs H Q E → codeAny (model P w) A (.call (.ref f) args) (CR (L2.CX P w) outer P w H s Q E) s
section
variable {P : Program} {w : World} {K : PySem.W.Frag} {mg : Str → Option Value} {base : Heap} {x qual : Str} {params : Arguments} {body : List Stmt} {scope : Scope} {dvs : List V} {kws : List (Str × V)} {f : Addr} {fd : FuncData}
theorem FnG.mono {ps : List Str} {F : Fd} {j k : Nat} (G : FnG P w K mg base j f fd ps F) (h : j ≤ k) : FnG P w K mg base k f fd ps F := ⟨fun A outer s H args us vs Q E hg hr => G.run A outer s H args us vs Q E hg (hr.mono h)⟩
/-- the body's run from a call's start -/
theorem body_run {N ps : List Str} {np : Nat} {sv : Sv} {X : Cx} {H : Hp} {vs : List V} {Q : VK} {E : XK} (hX : X.kx = ⟨K, P, w⟩) (lp : ps.length = np) (lN : np ≤ N.length) (h : spI ⟨K, P, w⟩ np (mkF np N.length sv) vs H Q E) :
    rdS X.kx sv { nx := fun _ H' => Q .non H', rt := Q } (L2.start N vs) H := by
  rw [hX]
  obtain ⟨hl, b, g, s0, σ, ts, v, s', m, r, e, k⟩ := h
  unfold mkF at e
  split at e
  · rename_i lt
    have m0 := m.start (N := N) r np lt lN
    split at e
    · rename_i v1 s1 e1
      cases e
      exact ⟨_, _, _, _, _, m0, e1, fun g' σ' H' V m' t' r' => k g' H' V _ σ' m' rfl r'⟩
    · rename_i n s1 e1
      split at e
      · rename_i o ho
        split at e
        · rename_i hf
          cases e
          exact ⟨_, _, _, _, _, m0, e1, fun g' σ' H' a m' t' r' => k g' H' a n _ σ' m' rfl r' ho hf⟩
        · cases e
      · cases e
    · rename_i s1 e1
      cases e
      exact ⟨_, _, _, _, _, m0, e1, fun g' σ' H' m' t' => k g' H' .non _ σ' m' rfl .non⟩
    · cases e
    · cases e
  · cases e
theorem fn_ok {N ps : List Str} {k : Nat} {sv : Sv} (D : FunD K x qual params body scope dvs kws f fd) (Sc : FnScope N ps scope)
    (hb : ∀ (cdv : Value) (A : Around) (outer : List Env) (s : Shared) (H : Hp) (E : XK), A.guards = some [] → Room k (A.deeper (envOfC qual scope s.heap.objs.size f cdv)) → FSs (cxOf (L2.CX P w) P w K mg base N qual scope f cdv A outer s H E).nox body sv) :
    FnG P w K mg base (k + 1) f fd ps (mkF ps.length N.length sv) := by
  obtain ⟨clO, clD, dfV, kwV, docV, pmV, anV, cdV, ctV, slV, rfl, hlk, hcode, _, _⟩ := D.ex
  refine ⟨fun A outer s H args us vs Q E hg room e0 bnd rel word => ?_⟩
  have inK : K.In s.heap := e0.mod.kin.keeps fun a o q => (e0.bs a o q).1
  have cap : s.heap.NoLimit := e0.mod.nolimit.keeps fun a o q => (e0.bs a o q).1
  have kinds : ∀ y ∈ ps.zip us, scope.names.lookup y.1 = some .local ∨ (scope.names.lookup y.1 = some .cell ∧ ((cellsFrom (s.heap.objs.size + 1) scope.names []).lookup y.1).isSome = true) := by
    rintro ⟨nm, z⟩ hy
    have hp := Sc.par nm (List.of_mem_zip hy).1
    exact hp.imp id fun q => ⟨q, PySem.W.cellsFrom_some _ _ _ (.inl q)⟩
  have lN : ps.length ≤ N.length := by
    have h2 : (N.take ps.length).length = ps.length := by rw [Sc.pre]
    rw [List.length_take] at h2
    omega
  refine codeAny_call_function room.depth (inK _ _ hlk) rfl Sc.co Sc.gen rfl (PySem.W.codeRec_of inK hcode) (bnd _ _ _ _ ?_)
  refine wpAny_newFunctionEnv_cells Sc.kind kinds fun env he s1 inC => ?_
  subst he
  refine ⟨cap.keeps inC.toInCall.keep, codeAny_func ?_⟩
  have start := inv_start (CX := L2.CX P w) (E := E) Sc room.hd e0 word.1 rel inC
  have go := (hb cdV A outer s H E hg (room.deeper _)).nox.run [] s1 (L2.start N vs) H { nx := fun _ H' => Q .non H', rt := Q } start (body_run rfl rfl lN word)
  refine wpAny_mono go (fun fl s' done => ?_) fun _ _ q => q
  match fl, done with
  | .ret u, ⟨v, σ', H', J, rv, q⟩ => exact ⟨v, H', J.os, J.bare, J.base, J.hok, rv, q⟩
  | .next, ⟨σ', H', J, q⟩ => exact ⟨.non, H', J.os, J.bare, J.base, J.hok, rfl, q⟩
  | .brk, ⟨_, _, _, q⟩ => exact q.elim
  | .cont, ⟨_, _, _, q⟩ => exact q.elim
end
def callF (F : Fd) (ts : List T) : En := fun s => match F ts s.st with
  | .ok v s2 => .ok v { s with st := s2.st }
  | .exc e s2 => .exc e { s with st := s2.st }
  | .no => .no
def fCall (F : Fd) (fa : Ea) : En := fun s => (fa s).bind fun ts s1 => callF F ts s1
/-- what the callee made is the caller's alone -/
theorem Sim.backN {K : Kx} {b : B} {g g' : G} {s s2 : S} {σ σ2 : St} {H H' : Hp} {a : Addr} {n : Nat} {o : O} (m : Sim K b g s σ H) (m' : Sim K ⟨g.call, H, []⟩ g' s2 σ2 H') (h1 : g'.lam[n]? = some a) (h2 : s2.lo[n]? = some o) (hf : o.free = true) :
    ∃ ho, Sim K (b.hide a ho) (g'.back g) { s with st := s2.st } σ H' ∧ Step g H (g'.back g) H' ∧ SRep K (g'.back g) H' a o ∧ Hidn b a := by
  obtain ⟨q1, q2, _⟩ := m.back m' (v := .non) (t := .non) .non
  have hd : o ≠ .dead := fun z => by rw [z] at hf; cases hf
  obtain ⟨r1, r2⟩ := m'.loc n a o h1 h2 hd
  obtain ⟨l1, l2, l3⟩ := m'.lof a (List.mem_of_getElem? h1)
  have l2 : H a = none := l2
  obtain ⟨f1, f2, f3, f4, f5⟩ := m.fresh l2
  have rr : SRep K (g'.back g) H' a o := ⟨orep_same (g := g') (g' := g'.back g) rfl rfl hf r1, hf⟩
  obtain ⟨ho, hh⟩ : ∃ ho, H' a = some ho := by
    cases q : H' a with
    | none => exact absurd q l3
    | some ho => exact ⟨ho, rfl⟩
  refine ⟨ho, q1.rehid rfl rfl fun p hp => ?_, q2, rr, m.hidn' l2⟩
  rcases List.mem_cons.mp hp with rfl | hp
  · exact ⟨hh, r2, l1, f3⟩
  · exact q1.hidn p hp
section
variable {X : Cx} {k : Nat} {f : Addr} {fd : FuncData} {ps : List Str} {x : Str} {p pos : Pos} {e : Expr} {es : List Expr} {fa : Ea} {F : Fd} {n : Nat}
theorem spI_of {K : Kx} {b : B} {g : G} {s : S} {σ : St} {H : Hp} {ts : List T} {v : Nw} {s' : S} {Vs : List V} {Q : VK} {E : XK} (m : Sim K b g s σ H) (r : RepL K g H Vs ts) (l : ts.length = n) (e : callF F ts s = .ok v s')
    (k : NEnd K b g H σ s' Q v) : spI K n F Vs H Q E := by
  unfold callF at e
  split at e
  · rename_i v1 s2 e1
    cases e
    refine ⟨r.length.trans l, b, g, s, σ, ts, _, s2, m, r, e1, ?_⟩
    cases v with
    | val v =>
      intro g' H' V s3 σ3 m' es r'
      obtain ⟨q1, q2, q3⟩ := m.back m' r'
      rw [es] at q1
      exact k _ H' V q1 q2 q3
    | new o =>
      intro g' H' a n s3 σ3 m' es h1 h2 hf
      obtain ⟨ho, q1, q2, q3, q4⟩ := m.backN m' h1 h2 hf
      rw [es] at q1
      exact k _ H' a ho q1 q2 q3 q4
  · cases e
  · cases e
theorem mkF_len {np nn : Nat} {sv : Sv} (ts : List T) (st : List O) (v : Nw) (s : S) (h : mkF np nn sv ts st = .ok v s) : ts.length = np := by
  unfold mkF at h
  split at h
  · assumption
  · cases h
def LenF (n : Nat) (F : Fd) : Prop := ∀ ts st v s, F ts st = .ok v s → ts.length = n
theorem callF_len {F : Fd} {ts : List T} {s s' : S} {v : Nw} (hF : LenF n F) (e : callF F ts s = .ok v s') : ts.length = n := by
  unfold callF at e
  split at e
  · rename_i q; exact hF _ _ _ _ q
  · cases e
  · cases e
/-- the callee runs, its arguments made -/
theorem call_run {args : Args} {us : List Value} {vs : List V} {ts : List T} {pins : List (Addr × Obj)} {b : B} {g : G} {s0 s' : S} {σ : St} {H : Hp} {s : Shared} {v : Nw} {Q : VK} (D : FnG X.prog X.w X.K X.mg X.base k f fd ps F) (hg : X.A.guards = some []) (hr : Room k X.A)
    (I : Inv X pins σ H s) (bnd : BindsTo s fd args (ps.zip us)) (rel : Vals vs us) (m : Sim X.kx b g s0 σ H) (r : RepL X.kx g H vs ts) (l : ts.length = ps.length) (e : callF F ts s0 = .ok v s')
    (q : NEnd X.kx b g H σ s' Q v) : codeAny (model X.prog X.w) X.A (.call (.ref f) args) (fun res s1 => match res with
      | .ok (.ret u) => EP X pins σ Q u s1
      | _ => False) s := by
  refine codeAny_mono (D.run X.A X.stack s H args us vs Q E0 hg hr I.env0 bnd rel (spI_of m r l e q)) fun res s1 out => ?_
  match res, out with
  | .ok (.ret u), out => exact I.after out
  | .ok .next, out => exact out.elim
  | .ok .brk, out => exact out.elim
  | .ok .cont, out => exact out.elim
  | .error ex, out => exact passL (X := X.wish fun _ _ => False) pins σ H s ex s1 (I.wish _) out
/-- a call of a def that takes no defaults -/
theorem fe_call (D : FnG X.prog X.w X.K X.mg X.base k f fd ps F) (hF : LenF ps.length F) (hgd : X.A.guards = some []) (hr : Room k X.A) (hg : Gl X x) (hm : X.mg x = some (.ref f)) (hk : PySem.W.keepIn X.K (.ref f) = true) (hb : Binds X.K fd ps [])
    (ha : FA X (e :: es) fa) (hdb : (x == ("__debug__" : Str)) = false := by decide) (he : starEach (e :: es) X.env = (false, eval e X.env) :: starEach es X.env := by rfl) (hpl : (backTo pos (starEach es X.env)).any (·.1) = false := by rfl) :
    FN X (.Call (.Name x p) (e :: es) [] pos) (fCall F fa) := by
  refine ⟨fun pins s σ H Q I ⟨b, g, s0, v, s', m, ev, q⟩ => ?_⟩
  obtain ⟨ts, s1, e1, e2⟩ := bind_ok ev
  refine wpAny_Call_Name_kw (ld_glob I hg hm ?_ hdb)
  refine PySem.W.callWith_K (h₀ := X.base) I.ok.mod.kin hk (thn (ha.run pos pins s σ H (fun vs H1 => ∃ g1, Sim X.kx b g1 s1 σ H1 ∧ Step g H g1 H1 ∧ RepL X.kx g1 H1 vs ts) I ⟨b, g, s0, ts, s1, m, e1, fun g1 H1 Vs m1 t1 r1 => ⟨g1, m1, t1, r1⟩⟩) fun us s2 ⟨vs, H1, I1, rel, g1, m1, t1, r1⟩ => ⟨I1.kIn, ?_⟩) he hpl
  have l := callF_len hF e2
  have lu : us.length = ps.length := rel.length.symm.trans (r1.length.trans l)
  have bnd : BindsTo s2 fd ⟨us, []⟩ (ps.zip us) := by
    have := hb s2 us I1.kIn (by simpa using lu)
    rwa [List.append_nil] at this
  refine wpAny_call (codeAny_mono (call_run D hgd hr I1 bnd rel m1 r1 l e2 (q.step t1)) fun res s3 out => ?_)
  match res, out with
  | .ok (.ret u), out => exact out
/-- a call's value; a list that it made is a value from here on -/
def fVal (f : En) : Ev := fun s => (f s).bind fun n s1 => match n with
  | .val t => .ok t s1
  | .new (.lst ts) => .ok (.lst ts) s1
  | _ => .no
theorem fe_fn {f : En} (h : FN X e f) : FE X e (fVal f) := pe_mono h fun σ H Q ⟨b, g, s, v, s', m, e, k⟩ => by
  obtain ⟨n, s1, e1, e⟩ := bind_ok e
  refine ⟨b, g, s, n, s1, m, e1, ?_⟩
  cases n with
  | val t => cases e; exact k
  | new o =>
    cases o with
    | lst ts =>
      cases e
      intro g' H' p ho m' t' r' hb
      have ⟨h1, _⟩ := m'.hidn (p, ho) (List.mem_cons_self ..)
      cases r'.rep with
      | lst q1 q2 =>
        rw [show H' p = some ho from h1] at q1
        cases q1
        obtain ⟨g2, m2, t2, r2⟩ := m'.showVal hb q2
        exact k g2 _ _ m2 (t'.trans t2) r2
    | _ => cases e
end
end L2.Z
set_option Elab.async false
set_option linter.all false
set_option maxRecDepth 100000
set_option maxHeartbeats 2000000
namespace L2.Z
open PySem PySem.Spec PyProof.Rows
mutual
def toD : T → PyData
  | .non => .none
  | .bl b => .bool b
  | .int i => .int i
  | .str s => .str s
  | .tup ts => .tuple (toDs ts)
  | .lst ts => .list (toDs ts)
  | .dct _ _ => .dict []
  | .dcn _ _ => .dict []
  | .loc _ => .dict []
  | .pr ts => .tuple (toDs ts)
def toDs : List T → List PyData
  | [] => []
  | t :: ts => toD t :: toDs ts
end
theorem toDs_map : ∀ ts : List T, toDs ts = ts.map toD
  | [] => rfl
  | t :: ts => by rw [toDs, toDs_map ts]; rfl
/-- no mutable thing lies within -/
def okT (t : T) : Bool := (toD t).plain
section
variable {K : Kx} {g : G} {H : Hp}
mutual
theorem rep_dp : ∀ {v : V} {t : T}, Rep K g H v t → okT t = true → Dp K.K H v (toD t)
  | _, _, .non, _ => .non
  | _, _, .bl b, _ => .bl b
  | _, _, .int i, _ => .int i
  | _, _, .str s, _ => .str s
  | _, _, .tup h _ r, k => .tup h (repL_dp r (by simpa [okT, toD, PyData.plain] using k))
  | _, _, .lst h _ r, k => .lst (SqL.of h) (repL_dp r (by simpa [okT, toD, PyData.plain] using k))
  | _, _, .lstF h r, k => .lst (by
      rcases h with ⟨o, h1⟩ | h1
      · exact .inl (.inr ⟨o, h1⟩)
      · exact .inr h1) (repL_dp r (by simpa [okT, toD, PyData.plain] using k))
  | _, _, .dct _ _ _, k => by simp [okT, toD, PyData.plain] at k
  | _, _, .dcn _ _ _ _, k => by simp [okT, toD, PyData.plain] at k
  | _, _, .loc _, k => by simp [okT, toD, PyData.plain] at k
  | _, _, .pr h r, k => .tup h (repL_dp r (by simpa [okT, toD, PyData.plain] using k))
theorem repL_dp : ∀ {vs : List V} {ts : List T}, RepL K g H vs ts → PyData.plainAll (toDs ts) = true → DpAll K.K H vs (toDs ts)
  | _, _, .nil, _ => .nil
  | _, _, .cons a b, k => by
    rw [toDs, PyData.plainAll, Bool.and_eq_true] at k
    exact .cons (rep_dp a k.1) (repL_dp b k.2)
end
theorem rep_reads {X : Cx} {pins : List (Addr × Obj)} {σ : St} {g : G} {H : Hp} {s : Shared} {v : V} {u : Value} {t : T} (I : Inv X pins σ H s) (r : Rep X.kx g H v t) (rv : RelV v u) (k : okT t = true) : ∃ as, Reads s.heap u (toD t) as := Dp.reads I _ _ _ (rep_dp r k) rv
end
def dMin (x y : T) : Nat := min (toD x).depth (toD y).depth
def cmpOk (x y : T) : Bool := okT x && okT y && decide (dMin x y ≤ 100)
def opEq (x y : T) : Option T := if cmpOk x y = true then some (.bl (PyData.eqv (toD x) (toD y))) else none
def opNe (x y : T) : Option T := if cmpOk x y = true then some (.bl (!PyData.eqv (toD x) (toD y))) else none
def inL (x : T) (ts : List T) : Bool := ts.any fun y => PyData.eqv (toD y) (toD x)
def opIn (x y : T) : Option T := match y with
  | .lst ts => if cmpOk x y = true then some (.bl (inL x ts)) else none
  | .tup ts => if cmpOk x y = true then some (.bl (inL x ts)) else none
  | .str z => match x with
    | .str i => some (.bl (!(Builtin.Str.occurrences z i 0 z.length 1).isEmpty))
    | _ => none
  | _ => none
def opNotIn (x y : T) : Option T := match opIn x y with
  | some (.bl c) => some (.bl (!c))
  | _ => none
section
variable {X : Cx}
theorem cmpOk_iff {x y : T} (h : cmpOk x y = true) : okT x = true ∧ okT y = true ∧ dMin x y ≤ 100 := by
  unfold cmpOk at h
  simpa [Bool.and_eq_true, and_assoc] using h
theorem oz_eq (hu : X.A.units + 101 < cLine) : OpR X (compareOp .Eq) (rOp X.kx opEq) := by
  intro pins s σ H x y v u Q I rx ry ⟨g, tx, ty, z, mk, r1, r2, e, k⟩
  unfold opEq at e
  split at e
  · rename_i c
    cases e
    obtain ⟨c1, c2, c3⟩ := cmpOk_iff c
    obtain ⟨as, q1⟩ := rep_reads I r1 rx c1
    obtain ⟨bs, q2⟩ := rep_reads I r2 ry c2
    have c3 : min (toD tx).depth (toD ty).depth ≤ 100 := c3
    exact SeqAt.eq_plain q1 q2 c1 c2 (by omega) ⟨.bl _, H, I, rfl, k _ _ (Ext.refl H) (.bl _)⟩
  · cases e
theorem oz_ne (hu : X.A.units + 101 < cLine) : OpR X (compareOp .NotEq) (rOp X.kx opNe) := by
  intro pins s σ H x y v u Q I rx ry ⟨g, tx, ty, z, mk, r1, r2, e, k⟩
  unfold opNe at e
  split at e
  · rename_i c
    cases e
    obtain ⟨c1, c2, c3⟩ := cmpOk_iff c
    obtain ⟨as, q1⟩ := rep_reads I r1 rx c1
    obtain ⟨bs, q2⟩ := rep_reads I r2 ry c2
    have c3 : min (toD tx).depth (toD ty).depth ≤ 100 := c3
    exact SeqAt.ne_plain q1 q2 c1 c2 (by omega) ⟨.bl _, H, I, rfl, k _ _ (Ext.refl H) (.bl _)⟩
  · cases e
theorem inL_map (x : T) (ts : List T) : ((toDs ts).any fun y => PyData.eqv y (toD x)) = inL x ts := by
  rw [toDs_map, List.any_map]; rfl
theorem min_in {x : T} {ts : List T} (h : min (toD x).depth ((PyData.depthAll (toDs ts)) + 1) ≤ 100) : min (PyData.depthAll (toDs ts)) (toD x).depth ≤ 100 := by omega
theorem oz_in (hu : X.A.units + 103 < cLine) : OpR X (compareOp .In) (rOp X.kx opIn) := by
  intro pins s σ H x y v u Q I rx ry ⟨g, tx, ty, z, mk, r1, r2, e, k⟩
  cases ty with
  | lst ts =>
    unfold opIn at e
    dsimp only at e
    split at e
    · rename_i c
      cases e
      obtain ⟨c1, c2, c3⟩ := cmpOk_iff c
      obtain ⟨as, q1⟩ := rep_reads I r1 rx c1
      obtain ⟨bs, q2⟩ := rep_reads I r2 ry c2
      rw [toD] at q2
      have c3 : min (toD tx).depth (PyData.list (toDs ts)).depth ≤ 100 := c3
      rw [PyData.depth] at c3
      exact SeqAt.in_list_data q2 q1 (by simpa [okT, toD, PyData.plain] using c2) c1 (by have := min_in c3; omega) ⟨.bl _, H, I, rfl, by rw [inL_map]; exact k _ _ (Ext.refl H) (.bl _)⟩
    · cases e
  | tup ts =>
    unfold opIn at e
    dsimp only at e
    split at e
    · rename_i c
      cases e
      obtain ⟨c1, c2, c3⟩ := cmpOk_iff c
      obtain ⟨as, q1⟩ := rep_reads I r1 rx c1
      obtain ⟨bs, q2⟩ := rep_reads I r2 ry c2
      rw [toD] at q2
      have c3 : min (toD tx).depth (PyData.tuple (toDs ts)).depth ≤ 100 := c3
      rw [PyData.depth] at c3
      exact SeqAt.in_tuple_data q2 q1 (by simpa [okT, toD, PyData.plain] using c2) c1 (by have := min_in c3; omega) ⟨.bl _, H, I, rfl, by rw [inL_map]; exact k _ _ (Ext.refl H) (.bl _)⟩
    · cases e
  | str z =>
    cases tx with
    | str i =>
      cases e
      cases rep_str r1
      cases rep_str r2
      exact op_in_str pins s σ H _ _ v u Q I rx ry ⟨i, z, rfl, rfl, k _ _ (Ext.refl H) (.bl _)⟩
    | _ => cases e
  | _ => cases e
theorem oz_notIn (hu : X.A.units + 103 < cLine) : OpR X (compareOp .NotIn) (rOp X.kx opNotIn) := by
  intro pins s σ H x y v u Q I rx ry ⟨g, tx, ty, z, mk, r1, r2, e, k⟩
  cases ty with
  | lst ts =>
    unfold opNotIn opIn at e
    dsimp only at e
    split at e
    · rename_i c0 ec
      split at ec
      · rename_i c
        cases ec
        cases e
        obtain ⟨c1, c2, c3⟩ := cmpOk_iff c
        obtain ⟨as, q1⟩ := rep_reads I r1 rx c1
        obtain ⟨bs, q2⟩ := rep_reads I r2 ry c2
        rw [toD] at q2
        have c3 : min (toD tx).depth (PyData.list (toDs ts)).depth ≤ 100 := c3
        rw [PyData.depth] at c3
        exact SeqAt.notIn_list_data q2 q1 (by simpa [okT, toD, PyData.plain] using c2) c1 (by have := min_in c3; omega) ⟨.bl _, H, I, rfl, by rw [inL_map]; exact k _ _ (Ext.refl H) (.bl _)⟩
      · cases ec
    · cases e
  | tup ts =>
    unfold opNotIn opIn at e
    dsimp only at e
    split at e
    · rename_i c0 ec
      split at ec
      · rename_i c
        cases ec
        cases e
        obtain ⟨c1, c2, c3⟩ := cmpOk_iff c
        obtain ⟨as, q1⟩ := rep_reads I r1 rx c1
        obtain ⟨bs, q2⟩ := rep_reads I r2 ry c2
        rw [toD] at q2
        have c3 : min (toD tx).depth (PyData.tuple (toDs ts)).depth ≤ 100 := c3
        rw [PyData.depth] at c3
        exact SeqAt.notIn_tuple_data q2 q1 (by simpa [okT, toD, PyData.plain] using c2) c1 (by have := min_in c3; omega) ⟨.bl _, H, I, rfl, by rw [inL_map]; exact k _ _ (Ext.refl H) (.bl _)⟩
      · cases ec
    · cases e
  | str z =>
    cases tx with
    | str i =>
      cases e
      cases rep_str r1
      cases rep_str r2
      exact op_notin_str pins s σ H _ _ v u Q I rx ry ⟨i, z, rfl, rfl, k _ _ (Ext.refl H) (.bl _)⟩
    | _ => cases e
  | _ => cases e
def opLt (x y : T) : Option T := match x, y with
  | .int i, .int j => some (.bl (decide (i < j)))
  | .str a, .str b => some (.bl (decide (a.cps.toList < b.cps.toList)))
  | _, _ => none
def opI (f : Int → Int → T) (x y : T) : Option T := match x, y with
  | .int i, .int j => some (f i j)
  | _, _ => none
abbrev opLe : T → T → Option T := opI fun i j => .bl (decide (i ≤ j))
abbrev opGt : T → T → Option T := opI fun i j => .bl (decide (j < i))
abbrev opGe : T → T → Option T := opI fun i j => .bl (decide (j ≤ i))
abbrev opSub : T → T → Option T := opI fun i j => .int (i - j)
def opAdd (x y : T) : Option T := match x, y with
  | .int i, .int j => some (.int (i + j))
  | .str a, .str b => if a.length + b.length ≤ 16777216 then some (.str (a ++ b)) else none
  | .tup a, .tup b => if a.length + b.length ≤ 16777216 then some (.tup (a ++ b)) else none
  | _, _ => none
theorem oz_int {f : Value → Value → Sem Value} {h : Int → Int → V} {ht : Int → Int → T} (ho : OpR X f (rI0 h)) (hr : ∀ K g H i j, Rep K g H (h i j) (ht i j)) : OpR X f (rOp X.kx (opI ht)) := by
  intro pins s σ H x y v u Q I rx ry ⟨g, tx, ty, z, mk, r1, r2, e, k⟩
  cases tx with
  | int i =>
    cases ty with
    | int j =>
      cases e
      cases rep_int r1
      cases rep_int r2
      exact ho pins s σ H _ _ v u Q I rx ry ⟨i, j, rfl, rfl, k _ _ (Ext.refl H) (hr _ _ _ i j)⟩
    | _ => cases e
  | _ => cases e
theorem oz_le : OpR X (compareOp .LtE) (rOp X.kx opLe) := oz_int op_le fun _ _ _ _ _ => .bl _
theorem oz_gt : OpR X (compareOp .Gt) (rOp X.kx opGt) := oz_int op_gt fun _ _ _ _ _ => .bl _
theorem oz_ge : OpR X (compareOp .GtE) (rOp X.kx opGe) := oz_int op_ge fun _ _ _ _ _ => .bl _
theorem oz_sub : OpR X (binaryOp .Sub) (rOp X.kx opSub) := oz_int op_sub fun _ _ _ _ _ => .int _
theorem oz_lt : OpR X (compareOp .Lt) (rOp X.kx opLt) := by
  intro pins s σ H x y v u Q I rx ry ⟨g, tx, ty, z, mk, r1, r2, e, k⟩
  cases tx with
  | int i =>
    cases ty with
    | int j =>
      cases e
      cases rep_int r1
      cases rep_int r2
      exact op_lt pins s σ H _ _ v u Q I rx ry ⟨i, j, rfl, rfl, k _ _ (Ext.refl H) (.bl _)⟩
    | _ => cases e
  | str i =>
    cases ty with
    | str j =>
      cases e
      cases rep_str r1
      cases rep_str r2
      exact op_lt_str pins s σ H _ _ v u Q I rx ry ⟨i, j, rfl, rfl, k _ _ (Ext.refl H) (.bl _)⟩
    | _ => cases e
  | _ => cases e
end
end L2.Z
set_option Elab.async false
set_option linter.all false
set_option maxRecDepth 100000
set_option maxHeartbeats 2000000
namespace L2.Z
open PySem PySem.Spec PyProof.Rows
section
variable {X : Cx}
theorem fit_of {n : Nat} (h : n ≤ 16777216) : n ≤ sizeLine := by rw [sizeLine_eq]; exact h
theorem oz_add : OpR X (binaryOp .Add) (rOp X.kx opAdd) := by
  intro pins s σ H x y v u Q I rx ry ⟨g, tx, ty, z, mk, r1, r2, e, k⟩
  cases tx with
  | int i =>
    cases ty with
    | int j =>
      cases e
      cases rep_int r1
      cases rep_int r2
      exact op_add pins s σ H _ _ v u Q I rx ry ⟨i, j, rfl, rfl, k _ _ (Ext.refl H) (.int _)⟩
    | _ => cases e
  | str i =>
    cases ty with
    | str j =>
      unfold opAdd at e
      dsimp only at e
      split at e
      · rename_i l
        cases e
        cases rep_str r1
        cases rep_str r2
        exact op_add_str pins s σ H _ _ v u Q I rx ry ⟨i, j, rfl, rfl, fit_of l, k _ _ (Ext.refl H) (.str _)⟩
      · cases e
    | _ => cases e
  | tup as =>
    cases ty with
    | tup bs =>
      unfold opAdd at e
      dsimp only at e
      split at e
      · rename_i l
        cases e
        obtain ⟨a, xs, rfl, h1, q1⟩ := rep_tup r1
        obtain ⟨b, ys, rfl, h2, q2⟩ := rep_tup r2
        refine op_catZ pins s σ H _ _ v u Q I rx ry ⟨a, b, xs, ys, rfl, rfl, h1, h2, fit_of (by rw [q1.length, q2.length]; exact l), fun hx => ?_, fun _ hy => ?_, fun p o hp hd => ?_⟩
        · subst hx
          cases q1
          exact k _ _ (Ext.refl H) r2
        · subst hy
          cases q2
          rw [List.append_nil] at k
          exact k _ _ (Ext.refl H) r1
        · exact k _ _ (Ext.new hp) (.new hd hp (q1.append q2))
      · cases e
    | _ => cases e
  | _ => cases e
/-- products: below a million bits -/
def opMul (x y : T) : Option T := match x, y with
  | .int i, .int j => if i.natAbs.log2 + j.natAbs.log2 < 1000000 then some (.int (i * j)) else none
  | _, _ => none
def opDiv (x y : T) : Option T := match x, y with
  | .int i, .int j => if 0 < j ∧ j.natAbs.log2 < 9000 then some (.int (i / j)) else none
  | _, _ => none
def opMod (x y : T) : Option T := match x, y with
  | .int i, .int j => if 0 < j then some (.int (i % j)) else none
  | _, _ => none
def opPow (x y : T) : Option T := match x, y with
  | .int i, .int j => if 0 ≤ j ∧ j ≤ 1000000 ∧ i.natAbs < 18446744073709551616 then some (.int (i ^ j.toNat)) else none
  | _, _ => none
def opNeg (x : T) : Option T := match x with
  | .int i => some (.int (-i))
  | _ => none
theorem oz_intC {f : Value → Value → Sem Value} {h : Int → Int → V} {op : T → T → Option T} {C : Int → Int → Prop} (ho : OpR X f (rI C h)) (h1 : ∀ i j z, op (.int i) (.int j) = some z → C i j ∧ ∀ K g H, Rep K g H (h i j) z) (h2 : ∀ x y z, op x y = some z → ∃ i j, x = .int i ∧ y = .int j) : OpR X f (rOp X.kx op) := by
  intro pins s σ H x y v u Q I rx ry ⟨g, tx, ty, z, mk, r1, r2, e, k⟩
  obtain ⟨i, j, rfl, rfl⟩ := h2 _ _ _ e
  obtain ⟨c, r⟩ := h1 i j z e
  cases rep_int r1
  cases rep_int r2
  exact ho pins s σ H _ _ v u Q I rx ry ⟨i, j, rfl, rfl, c, k _ _ (Ext.refl H) (r _ _ _)⟩
theorem oz_mul : OpR X (binaryOp .Mult) (rOp X.kx opMul) := oz_intC op_mulW (fun i j z e => by
    unfold opMul at e
    dsimp only at e
    split at e
    · rename_i c; cases e; exact ⟨c, fun _ _ _ => .int _⟩
    · cases e) fun x y z e => by cases x <;> cases y <;> first | exact ⟨_, _, rfl, rfl⟩ | cases e
theorem oz_div : OpR X (binaryOp .FloorDiv) (rOp X.kx opDiv) := oz_intC op_fdivW (fun i j z e => by
    unfold opDiv at e
    dsimp only at e
    split at e
    · rename_i c; cases e; exact ⟨c, fun _ _ _ => .int _⟩
    · cases e) fun x y z e => by cases x <;> cases y <;> first | exact ⟨_, _, rfl, rfl⟩ | cases e
theorem oz_mod : OpR X (binaryOp .Mod) (rOp X.kx opMod) := oz_intC op_mod (fun i j z e => by
    unfold opMod at e
    dsimp only at e
    split at e
    · rename_i c; cases e; exact ⟨c, fun _ _ _ => .int _⟩
    · cases e) fun x y z e => by cases x <;> cases y <;> first | exact ⟨_, _, rfl, rfl⟩ | cases e
theorem oz_pow : OpR X (binaryOp .Pow) (rOp X.kx opPow) := oz_intC op_pow (fun i j z e => by
    unfold opPow at e
    dsimp only at e
    split at e
    · rename_i c; cases e; exact ⟨⟨c.1, c.2.1, by have := c.2.2; exact this⟩, fun _ _ _ => .int _⟩
    · cases e) fun x y z e => by cases x <;> cases y <;> first | exact ⟨_, _, rfl, rfl⟩ | cases e
theorem uz_neg : UnR X (unaryOp .USub) (rUn X.kx opNeg) := by
  intro pins s σ H x v Q I rx ⟨g, tx, z, mk, r1, e, k⟩
  cases tx with
  | int i =>
    cases e
    cases rep_int r1
    exact un_neg pins s σ H _ v Q I rx ⟨i, rfl, k _ _ (Ext.refl H) (.int _)⟩
  | _ => cases e
def clLen (xs : List T) : Option T := match xs with
  | [.lst ts] => some (.int ts.length)
  | [.tup ts] => some (.int ts.length)
  | [.pr ts] => some (.int ts.length)
  | [.str z] => if z.length ≤ 16777216 then some (.int z.length) else none
  | _ => none
theorem cz_len : CallR X (.builtin "len") (rCl X.kx clLen) := by
  intro pins s σ H xs us Q I rs ⟨g, ts, z, mk, r, e, k⟩
  unfold clLen at e
  split at e
  · cases e
    obtain ⟨v, rfl, r1⟩ := repL_one r
    obtain ⟨a, vs, rfl, h1, q1⟩ := rep_lst r1
    exact call_len_seq pins s σ H _ us Q I rs ⟨a, vs, rfl, .inl h1, k _ _ (Ext.refl H) (by rw [q1.length]; exact .int _)⟩
  · cases e
    obtain ⟨v, rfl, r1⟩ := repL_one r
    obtain ⟨a, vs, rfl, h1, q1⟩ := rep_tup r1
    exact call_len_seq pins s σ H _ us Q I rs ⟨a, vs, rfl, .inr h1, k _ _ (Ext.refl H) (by rw [q1.length]; exact .int _)⟩
  · cases e
    obtain ⟨v, rfl, r1⟩ := repL_one r
    obtain ⟨a, vs, rfl, h1, q1⟩ := rep_pr r1
    exact call_len_seq pins s σ H _ us Q I rs ⟨a, vs, rfl, .inr h1, k _ _ (Ext.refl H) (by rw [q1.length]; exact .int _)⟩
  · split at e
    · rename_i l
      cases e
      obtain ⟨v, rfl, r1⟩ := repL_one r
      cases rep_str r1
      exact call_len_str pins s σ H _ us Q I rs ⟨_, rfl, fit_of l, k _ _ (Ext.refl H) (.int _)⟩
    · cases e
  · cases e
def ixAt {α : Type} (xs : List α) (i : Int) : Option α := if 0 ≤ i then xs[i.toNat]? else if -(xs.length : Int) ≤ i then xs[(i + xs.length).toNat]? else none
theorem ixAt_eq {α : Type} (xs : List α) (i : Int) : atI xs i = ixAt xs i := by
  unfold atI ixN ixAt
  by_cases h : 0 ≤ i
  · rw [if_pos h, if_pos h]
    by_cases h2 : i < xs.length
    · rw [if_pos h2]; rfl
    · rw [if_neg h2]
      exact (List.getElem?_eq_none (by omega)).symm
  · rw [if_neg h, if_neg h]
    split <;> rfl
def opIx (x y : T) : Option T := match x, y with
  | .lst ts, .int i => ixAt ts i
  | .tup ts, .int i => ixAt ts i
  | .pr ts, .int i => ixAt ts i
  | .str z, .int i => if z.length ≤ 16777216 then (ixAt z.cps.toList i).map fun c => .str ⟨#[c]⟩ else none
  | _, _ => none
theorem ixAt_rep {K : Kx} {g : G} {H : Hp} {vs : List V} {ts : List T} {i : Int} {t : T} (r : RepL K g H vs ts) (h : ixAt ts i = some t) : ∃ v, atI vs i = some v ∧ Rep K g H v t := by
  rw [ixAt_eq]
  unfold ixAt at h ⊢
  rw [r.length]
  split at h
  · rename_i c
    obtain ⟨v, h1, h2⟩ := r.get h
    exact ⟨v, by rw [if_pos c]; exact h1, h2⟩
  · rename_i c
    rw [if_neg c]
    split at h
    · rename_i c2
      obtain ⟨v, h1, h2⟩ := r.get h
      exact ⟨v, by rw [if_pos c2]; exact h1, h2⟩
    · cases h
theorem iz_ix : IxR X (rOp X.kx opIx) := by
  intro value slice pins s σ H x y v u Q I rx ry ⟨g, tx, ty, z, mk, r1, r2, e, k⟩ hs
  cases ty with
  | int i =>
    cases rep_int r2
    cases tx with
    | lst ts =>
      obtain ⟨a, vs, rfl, h1, q1⟩ := rep_lst r1
      obtain ⟨w, h2, h3⟩ := ixAt_rep q1 e
      exact ix_list value slice pins s σ H _ _ v u Q I rx ry ⟨a, vs, i, w, rfl, rfl, h1, h2, k _ _ (Ext.refl H) h3⟩ hs
    | tup ts =>
      obtain ⟨a, vs, rfl, h1, q1⟩ := rep_tup r1
      obtain ⟨w, h2, h3⟩ := ixAt_rep q1 e
      exact ix_tup value slice pins s σ H _ _ v u Q I rx ry ⟨a, vs, i, w, rfl, rfl, h1, h2, k _ _ (Ext.refl H) h3⟩ hs
    | pr ts =>
      obtain ⟨a, vs, rfl, h1, q1⟩ := rep_pr r1
      obtain ⟨w, h2, h3⟩ := ixAt_rep q1 e
      exact ix_tup value slice pins s σ H _ _ v u Q I rx ry ⟨a, vs, i, w, rfl, rfl, h1, h2, k _ _ (Ext.refl H) h3⟩ hs
    | str z =>
      unfold opIx at e
      dsimp only at e
      split at e
      · rename_i l
        cases q : ixAt z.cps.toList i with
        | none => rw [q] at e; cases e
        | some c =>
          rw [q] at e
          cases e
          cases rep_str r1
          exact ix_str value slice pins s σ H _ _ v u Q I rx ry ⟨z, i, c, rfl, rfl, fit_of l, by rw [ixAt_eq]; exact q, k _ _ (Ext.refl H) (.str _)⟩ hs
      · cases e
    | _ => cases e
  | _ => cases tx <;> cases e
theorem fe_ix {a c : Expr} {f h : Ev} {pos : Pos} (ha : FE X a f) (hc : FE X c h) (hs : PlainIx c := by first | exact (fun _ _ => rfl)) : FE X (.Subscript a c pos) (fBin opIx f h) := pe_mono (pe_ix iz_ix ha hc hs) fun _ _ _ => tOp_of
def clTup (xs : List T) : Option T := match xs with
  | [.lst ts] => some (.tup ts)
  | [.tup ts] => some (.tup ts)
  | _ => none
def clLst (xs : List T) : Option (List T) := match xs with
  | [.lst ts] => some ts
  | [.tup ts] => some ts
  | _ => none
theorem cz_tup : CallR X (.type "tuple") (rCl X.kx clTup) := by
  intro pins s σ H xs us Q I rs ⟨g, ts, z, mk, r, e, k⟩
  unfold clTup at e
  split at e
  · cases e
    obtain ⟨v, rfl, r1⟩ := repL_one r
    obtain ⟨a, vs, rfl, h1, q1⟩ := rep_lst r1
    exact call_tupZ pins s σ H _ us Q I rs ⟨a, vs, rfl, .inl ⟨h1, fun p o hp hd => k _ _ (Ext.new hp) (.new hd hp q1)⟩⟩
  · cases e
    obtain ⟨v, rfl, r1⟩ := repL_one r
    obtain ⟨a, vs, rfl, h1, q1⟩ := rep_tup r1
    exact call_tupZ pins s σ H _ us Q I rs ⟨a, vs, rfl, .inr ⟨h1, k _ _ (Ext.refl H) r1⟩⟩
  · cases e
theorem cz_lst : CallR X (.type "list") (rClF X.kx clLst) := by
  intro pins s σ H xs us Q I rs ⟨g, ts, z, mk, r, e, k⟩
  unfold clLst at e
  split at e
  · cases e
    obtain ⟨v, rfl, r1⟩ := repL_one r
    obtain ⟨a, vs, rfl, h1, q1⟩ := rep_lst r1
    exact call_list_of pins s σ H _ us Q I rs ⟨a, vs, rfl, .inl h1, fun p hp => k _ _ p (Ext.refl H) q1 hp⟩
  · cases e
    obtain ⟨v, rfl, r1⟩ := repL_one r
    obtain ⟨a, vs, rfl, h1, q1⟩ := rep_tup r1
    exact call_list_of pins s σ H _ us Q I rs ⟨a, vs, rfl, .inr h1, fun p hp => k _ _ p (Ext.refl H) q1 hp⟩
  · cases e
def clRepr (xs : List T) : Option T := match xs with
  | [.lst ts] => if okT (.lst ts) = true ∧ (toD (.lst ts)).showable = true ∧ (toD (.lst ts)).depth ≤ 100 ∧ (toD (.lst ts)).shown.length ≤ 16777216 then some (.str (toD (.lst ts)).shown) else none
  | [.tup ts] => if okT (.tup ts) = true ∧ (toD (.tup ts)).showable = true ∧ (toD (.tup ts)).depth ≤ 100 ∧ (toD (.tup ts)).shown.length ≤ 16777216 then some (.str (toD (.tup ts)).shown) else none
  | _ => none
mutual
theorem noDict : ∀ d : PyData, d.plain = true → d.hasDict = false
  | .none, _ => by simp [PyData.hasDict]
  | .bool _, _ => by simp [PyData.hasDict]
  | .int _, _ => by simp [PyData.hasDict]
  | .str _, _ => by simp [PyData.hasDict]
  | .list xs, h => by rw [PyData.hasDict]; exact noDictAll xs (by simpa [PyData.plain] using h)
  | .tuple xs, h => by rw [PyData.hasDict]; exact noDictAll xs (by simpa [PyData.plain] using h)
  | .dict _, h => by simp [PyData.plain] at h
theorem noDictAll : ∀ ds : List PyData, PyData.plainAll ds = true → PyData.hasDictAll ds = false
  | [], _ => by simp [PyData.hasDictAll]
  | d :: ds, h => by
    rw [PyData.plainAll, Bool.and_eq_true] at h
    rw [PyData.hasDictAll, noDict d h.1, noDictAll ds h.2]; rfl
end
theorem cz_repr_at {t : T} {pins : List (Addr × Obj)} {s : Shared} {σ : St} {g : G} {H : Hp} {a : Addr} {Q : VK} (hg : X.A.guards = some []) (hu : X.A.units + 103 < cLine) (I : Inv X pins σ H s) (r : Rep X.kx g H (.ref a) t)
    (c : okT t = true ∧ (toD t).showable = true ∧ (toD t).depth ≤ 100 ∧ (toD t).shown.length ≤ 16777216) (q : Q (.str (toD t).shown) H) : wpAny (model X.prog X.w) X.A (call (.builtin "repr") [.ref a]) (EP X pins σ Q) X.xe s := by
  obtain ⟨c1, c2, c3, c4⟩ := c
  obtain ⟨as, rd⟩ := rep_reads I r (rfl : RelV (.ref a) (.ref a)) c1
  exact repr_of_reads' rd c2 (PyData.noDict_hsm (noDict _ c1)) hg (by omega) (fun _ _ z => z) (fun h' u tk hk => ⟨.str _, H, I.kept (t' := tk) hk, ⟨_, rfl⟩, q⟩) (fit_of c4)
theorem cz_repr (hg : X.A.guards = some []) (hu : X.A.units + 103 < cLine) : CallR X (.builtin "repr") (rCl X.kx clRepr) := by
  intro pins s σ H xs us Q I rs ⟨g, ts, z, mk, r, e, k⟩
  unfold clRepr at e
  split at e
  · split at e
    · rename_i c
      cases e
      obtain ⟨v, rfl, r1⟩ := repL_one r
      obtain ⟨a, vs, rfl, h1, q1⟩ := rep_lst r1
      obtain ⟨u, rfl, ru⟩ := vals1 rs
      cases ru
      exact cz_repr_at hg hu I r1 c (k _ _ (Ext.refl H) (.str _))
    · cases e
  · split at e
    · rename_i c
      cases e
      obtain ⟨v, rfl, r1⟩ := repL_one r
      obtain ⟨a, vs, rfl, h1, q1⟩ := rep_tup r1
      obtain ⟨u, rfl, ru⟩ := vals1 rs
      cases ru
      exact cz_repr_at hg hu I r1 c (k _ _ (Ext.refl H) (.str _))
    · cases e
  · cases e
def clsOf : T → Option String
  | .non => some "NoneType"
  | .bl _ => some "bool"
  | .int _ => some "int"
  | .str _ => some "str"
  | .tup _ => some "tuple"
  | .lst _ => some "list"
  | .dct _ _ => some "dict"
  | .dcn _ _ => none
  | .loc _ => none
  | .pr _ => some "tuple"
/-- isinstance of a value and one of these classes -/
def isCls (t : T) (c : String) : Option Bool := match clsOf t with
  | some k => if c = "int" then some (k == "int" || k == "bool") else if c = "bool" || c = "str" || c = "tuple" || c = "list" then some (k == c) else none
  | none => none
theorem kit_isCls {t : T} {c k : String} {b : Bool} (h : isCls t c = some b) (hk : clsOf t = some k) : kitB k c = some b := by
  unfold isCls at h
  rw [hk] at h
  dsimp only at h
  have kk : k = "NoneType" ∨ k = "bool" ∨ k = "int" ∨ k = "str" ∨ k = "tuple" ∨ k = "list" ∨ k = "dict" := by
    cases t <;> simp [clsOf] at hk <;> simp [← hk]
  split at h
  · rename_i e
    subst e
    cases h
    rcases kk with rfl | rfl | rfl | rfl | rfl | rfl | rfl <;> decide +kernel
  · split at h
    · rename_i e
      cases h
      simp only [Bool.or_eq_true, decide_eq_true_eq] at e
      rcases e with ((rfl | rfl) | rfl) | rfl <;> (rcases kk with rfl | rfl | rfl | rfl | rfl | rfl | rfl <;> decide +kernel)
    · cases h
theorem tyX_of {K : Kx} {g : G} {H : Hp} {v : V} {t : T} {k : String} (r : Rep K g H v t) (hk : clsOf t = some k) : TyX K.K H v (.type k) := by
  cases r with
  | non => cases hk; exact .base .non
  | bl b => cases hk; exact .base (.bl b)
  | int i => cases hk; exact .base (.int i)
  | str s => cases hk; exact .base (.str s)
  | pr h r =>
    cases hk
    rcases h with (h | ⟨o, h⟩) | ⟨o, its, n, h, hc, _⟩
    · exact .base (.tup h)
    · exact .fTuple h
    · exact .kTuple h hc
  | tup h _ r =>
    cases hk
    rcases h with (h | ⟨o, h⟩) | ⟨o, its, n, h, hc, _⟩
    · exact .base (.tup h)
    · exact .fTuple h
    · exact .kTuple h hc
  | lst h _ r => cases hk; exact .base (.lst h)
  | lstF h r =>
    cases hk
    rcases h with ⟨o, h⟩ | ⟨o, its, n, h, hc, _⟩
    · exact .base (.frz h)
    · exact .kList h hc
  | dct h _ _ => cases hk; exact .fDict h
  | dcn => cases hk
  | loc h => cases hk
/-- isinstance(e, c), c a built-in class by its name -/
def fIsi (c : String) (f : Ev) : Ev := fun s => (f s).bind fun t s1 => match isCls t c with
  | some b => .ok (.bl b) s1
  | none => .no
theorem fe_isi {a : Expr} {f : Ev} {x : Str} {c : String} {p p' pos : Pos} (hg : Gl X "isinstance") (hm : X.mg "isinstance" = none) (hgc : Gl X x) (hmc : X.mg x = none) (hv : bootBuiltins x = some (.type c)) (ha : FE X a f) (hn : x ≠ "__name__" := by decide) (hd : (x == ("__debug__" : Str)) = false := by decide)
    (hs : starEach [a, .Name x p'] X.env = (false, eval a X.env) :: starEach [.Name x p'] X.env := by rfl) (hpl : (backTo pos (starEach [.Name x p'] X.env)).any (·.1) = false := by rfl) : FE X (.Call (.Name "isinstance" p) [a, .Name x p'] [] pos) (fIsi c f) :=
  pe_mono (pe_callB call_isi hg hm (by decide +kernel) (pa_cons ha (pa_cons (pe_bltn (v := .ty c) hgc hmc hv rfl hn hd) pa_nil) hs) (by decide) (by decide) hs hpl) fun σ H Q ⟨b, g, s, v, s', m, e, k⟩ => by
    obtain ⟨t, s1, e1, e⟩ := bind_ok e
    split at e
    · rename_i bb hb
      cases e
      refine ⟨b, g, s, t, _, m, e1, fun g1 H1 V m1 t1 r1 => ?_⟩
      obtain ⟨kk, hk⟩ : ∃ kk, clsOf t = some kk := by
        unfold isCls at hb
        cases q : clsOf t with
        | none => rw [q] at hb; cases hb
        | some kk => exact ⟨kk, rfl⟩
      exact ⟨V, .ty c, .type kk, .type c, bb, rfl, .ty c, tyX_of r1 hk, kit_ty (kit_isCls hb hk), k g1 H1 _ m1 t1 (.bl _)⟩
    · cases e
end
end L2.Z
set_option Elab.async false
set_option linter.all false
set_option maxRecDepth 100000
set_option maxHeartbeats 2000000
namespace L2.Z
open PySem PySem.Spec PyProof.Rows
/-- where a mutable thing is -/
inductive Pl where
  | own (n : Nat) | loc (n : Nat)
def S.at (s : S) : Pl → Option O
  | .own n => match s.lo[n]? with
    | some .dead => none
    | o => o
  | .loc n => s.st[n]?
def S.put (s : S) (o : O) : Pl → S
  | .own n => { s with lo := s.lo.set n o }
  | .loc n => { s with st := s.st.set n o }
def PAddr (g : G) : Pl → Addr → Prop
  | .own n, a => g.lam[n]? = some a
  | .loc n, a => g.rho[n]? = some a
section
variable {K : Kx} {b : B} {g g' : G} {s : S} {σ : St} {H H' : Hp} {pl : Pl} {a : Addr} {o o' : O} {ho : HO}
theorem PAddr.step (t : Step g H g' H') (h : PAddr g pl a) : PAddr g' pl a := by
  cases pl with
  | own i => exact lam_at t h
  | loc n => exact rho_at t h
theorem own_at {n : Nat} (h : s.at (.own n) = some o) : s.lo[n]? = some o ∧ o ≠ .dead := by
  have h' : (match s.lo[n]? with | some .dead => none | o => o) = some o := h
  split at h'
  · cases h'
  · rename_i q
    rw [h'] at q
    exact ⟨h', fun z => q (by rw [z])⟩
theorem Sim.at (m : Sim K b g s σ H) (p : PAddr g pl a) (h : s.at pl = some o) : ORep K g H a o ∧ a ∈ g.mu := by
  cases pl with
  | own n => exact m.loc n a o p (own_at h).1 (own_at h).2
  | loc n => exact ⟨(m.store n a o p h).rep, m.rmu a (List.mem_of_getElem? p)⟩
theorem Sim.setAt (m : Sim K b g s σ H) (p : PAddr g pl a) (h : s.at pl = some o) (hm : Mut (some ho)) (hf : o'.free = true) (r : Step g H g (upd H a ho) → ORep K g (upd H a ho) a o') : Sim K b g (s.put o' pl) σ (upd H a ho) ∧ Step g H g (upd H a ho) := by
  cases pl with
  | own n => exact m.setLo p (own_at h).1 (own_at h).2 hm r
  | loc n => exact m.setLoc p hm fun t => ⟨r t, hf⟩
theorem ORep.lst_inv {ts : List T} (h : ORep K g H a (.lst ts)) : ∃ vs, H a = some (.lst vs) ∧ RepL K g H vs ts := by
  cases h with
  | lst h1 h2 => exact ⟨_, h1, h2⟩
end
abbrev Ep := S → R Pl
def rdP (K : Kx) (f : Ep) : TE := fun σ H Q => ∃ b g s p s', Sim K b g s σ H ∧ f s = .ok p s' ∧ ∀ g' H' a, Sim K b g' s' σ H' → Step g H g' H' → PAddr g' p a → Q (.ref a) H'
abbrev FP (X : Cx) (e : Expr) (f : Ep) : Prop := PE X e (rdP X.kx f)
def pOwn (i : Nat) : Ep := fun s => match s.env[i]? with
  | some (.own n) => .ok (.own n) s
  | _ => .no
def pLoc (f : Ev) : Ep := fun s => (f s).bind fun t s1 => match t with
  | .loc n => .ok (.loc n) s1
  | _ => .no
section
variable {X : Cx} {pos apos cpos : Pos} {a c e : Expr} {f h : Ev} {fp : Ep} {fa : Ea} {es : List Expr}
theorem fp_own (i : Nat) {x : Str} {pos : Pos} (hN : X.N[i]? = some x := by rfl) (hv : Vis X.env.scope x := by first | exact Or.inl rfl | exact Or.inr (Or.inl rfl) | exact Or.inr (Or.inr rfl)) (hd : (x == ("__debug__" : Str)) = false := by decide)
    (hcd : (x == ("__classdict__" : Str)) = false := by decide) : FP X (.Name x pos) (pOwn i) := pe_mono (pv i hN hv hd hcd) fun σ H Q ⟨b, g, s, v, s', m, e, k⟩ => by
  unfold pOwn at e
  split at e
  · rename_i o ho
    cases e
    obtain ⟨a, h1, h2⟩ := m.slots i _ ho
    exact ⟨_, h1, k g H a m Step.refl h2⟩
  · cases e
theorem fp_loc (he : FE X e f) : FP X e (pLoc f) := pe_mono he fun σ H Q ⟨b, g, s, v, s', m, e, k⟩ => by
  obtain ⟨t, s1, e1, e⟩ := bind_ok e
  cases t with
  | loc n =>
    cases e
    refine ⟨b, g, s, _, _, m, e1, fun g' H' V m' t' r' => ?_⟩
    cases r' with
    | loc hr => exact k g' H' _ m' t' hr
  | _ => cases e
/-- the list at a place -/
def S.lstAt (s : S) (p : Pl) : Option (List T) := match s.at p with
  | some (.lst ts) => some ts
  | _ => none
theorem lstAt_at {s : S} {p : Pl} {ts : List T} (h : s.lstAt p = some ts) : s.at p = some (.lst ts) := by
  unfold S.lstAt at h
  split at h
  · rename_i e; cases h; exact e
  · cases h
/-- len(p) -/
def fLenP (f : Ep) : Ev := fun s => (f s).bind fun p s1 => match s1.lstAt p with
  | some ts => .ok (.int ts.length) s1
  | none => .no
theorem fe_lenP {p : Pos} (hg : Gl X "len") (hm : X.mg "len" = none) (ha : FP X e fp) (he : starEach (e :: []) X.env = (false, eval e X.env) :: starEach [] X.env := by rfl) : FE X (.Call (.Name "len" p) [e] [] pos) (fLenP fp) :=
  pe_mono (pe_callB call_len_seq hg hm (by decide +kernel) (pa_cons ha pa_nil he) (by decide) (by decide) he (by rfl)) fun σ H Q ⟨b, g, s, v, s', m, e, k⟩ => by
    obtain ⟨p, s1, e1, e⟩ := bind_ok e
    split at e
    · rename_i ts hl
      cases e
      refine ⟨b, g, s, p, _, m, e1, fun g' H' a m' t' pa => ?_⟩
      obtain ⟨vs, h1, h2⟩ := (m'.at pa (lstAt_at hl)).1.lst_inv
      exact ⟨a, vs, rfl, .inl (SqL.of h1), k g' H' _ m' t' (by rw [h2.length]; exact .int _)⟩
    · cases e
/-- p[i] -/
def fIxP (f : Ep) (h : Ev) : Ev := fun s => (f s).bind fun p s1 => (h s1).bind fun t s2 => match s2.lstAt p with
  | some ts => match t with
    | .int i => ofO (ixAt ts i) s2
    | _ => .no
  | none => .no
theorem fe_ixP (ha : FP X a fp) (hc : FE X c h) (hs : PlainIx c := by first | exact (fun _ _ => rfl)) : FE X (.Subscript a c pos) (fIxP fp h) := pe_mono (pe_ix ix_list ha hc hs) fun σ H Q ⟨b, g, s, v, s', m, e, k⟩ => by
  obtain ⟨p, s1, e1, e⟩ := bind_ok e
  obtain ⟨t, s2, e2, e⟩ := bind_ok e
  refine ⟨b, g, s, p, s1, m, e1, fun g1 H1 a m1 t1 pa => ⟨b, g1, s1, t, s2, m1, e2, fun g2 H2 V m2 t2 r2 => ?_⟩⟩
  split at e
  · rename_i ts hl
    cases t with
    | int i =>
      obtain ⟨eo, rfl⟩ := ofO_ok e
      obtain ⟨vs, h1, h2⟩ := (m2.at (pa.step t2) (lstAt_at hl)).1.lst_inv
      obtain ⟨w, q1, q2⟩ := ixAt_rep h2 eo
      cases rep_int r2
      exact ⟨a, vs, i, w, rfl, rfl, SqL.of h1, q1, k g2 H2 w m2 (t1.trans t2) q2⟩
    | _ => cases e
  · cases e
theorem tyV_lst {K : Kx} {H : Hp} {a : Addr} {vs : List V} (h : H a = some (.lst vs)) : tyV K.K "list" (.ref a) H := .inl ⟨rfl, vs, SqL.of h⟩
/-- a method that changes a list: from the items and an argument the new items and what it gives -/
def fMut (op : List T → List T → Option (List T × T)) (f : Ep) (fa : Ea) : Ev := fun s => (f s).bind fun p s1 => match s1.lstAt p with
  | some _ => (fa s1).bind fun xs s2 => match s2.lstAt p with
    | some ts => match op ts xs with
      | some (ts', t) => .ok t (s2.put (.lst ts') p)
      | none => .no
    | none => .no
  | none => .no
/-- how such a method runs by values -/
def MutR (K : Kx) (op : List T → List T → Option (List T × T)) (r : V → List V → Hp → VK → Prop) : Prop := ∀ (g : G) (H : Hp) (a : Addr) (vs xs : List V) (ts us ts' : List T) (t : T) (Q : VK),
  H a = some (.lst vs) → RepL K g H vs ts → RepL K g H xs us → op ts us = some (ts', t) → (∀ vs' v, RepL K g H vs' ts' → Rep K g H v t → Q v (upd H a (.lst vs'))) → r (.ref a) xs H Q
theorem mut_end {K : Kx} {op : List T → List T → Option (List T × T)} {r : V → List V → Hp → VK → Prop} (hr : MutR K op r) {b : B} {g : G} {s : S} {σ : St} {H : Hp} {a : Addr} {p : Pl} {Vs : List V} {xs ts ts' : List T} {t : T} {Q : VK} (m : Sim K b g s σ H) (pa : PAddr g p a) (rx : RepL K g H Vs xs)
    (hl : s.lstAt p = some ts) (ho : op ts xs = some (ts', t)) (k : ∀ H' V, Sim K b g (s.put (.lst ts') p) σ H' → Step g H g H' → Rep K g H' V t → Q V H') : r (.ref a) Vs H Q := by
  obtain ⟨vs, h1, h2⟩ := (m.at pa (lstAt_at hl)).1.lst_inv
  refine hr g H a vs Vs ts xs ts' t Q h1 h2 rx ho fun vs' v q1 q2 => ?_
  obtain ⟨m', t'⟩ := m.setAt (ho := .lst vs') (o' := .lst ts') pa (lstAt_at hl) trivial rfl fun st => .lst upd_same (q1.step st)
  exact k _ v m' t' (q2.step t')
theorem fe_mut {op : List T → List T → Option (List T × T)} {r : V → List V → Hp → VK → Prop} {name : Str} {id : String} (slot : PySem.Slot "list" name id) (hty : typeOf (.builtin id) = pure (.type "method_descriptor")) (hm : MtR X id r) (hr : MutR X.kx op r) (ho : FP X a fp) (ha : FA X (e :: es) fa)
    (hbase : attributeBase a name X.env (eval a X.env) = eval a X.env := by rfl)
    (hfew : ((backTo cpos (starEach (e :: es) X.env)).all (fun x => !x.1) && (backToKw cpos (keywordEach [] X.env)).all (fun x => x.1.isSome)
      && decide ((e :: es).length + ([] : List Keyword).length + (if ([] : List Keyword).isEmpty then 0 else 1) < 30)) = true := by rfl)
    (hline : (apos.endLine == cpos.line) = true := by rfl) (hs : starEach (e :: es) X.env = (false, eval e X.env) :: starEach es X.env := by rfl) (hplain : (backTo cpos (starEach es X.env)).any (·.1) = false := by rfl) :
    FE X (.Call (.Attribute a name apos) (e :: es) [] cpos) (fMut op fp fa) := pe_mono (pe_bm PySem.F.plainAttrs_list slot hty hm ho ha hbase hfew hline hs hplain) fun σ H Q ⟨b, g, s, v, s', m, ev, k⟩ => by
  obtain ⟨p, s1, e1, ev⟩ := bind_ok ev
  refine ⟨b, g, s, p, s1, m, e1, fun g1 H1 a m1 t1 pa => ?_⟩
  split at ev
  · rename_i ts0 hl0
    obtain ⟨xs, s2, e2, ev⟩ := bind_ok ev
    obtain ⟨vs0, q0, _⟩ := (m1.at pa (lstAt_at hl0)).1.lst_inv
    refine ⟨tyV_lst (K := X.kx) q0, b, g1, s1, xs, s2, m1, e2, fun g2 H2 Vs m2 t2 r2 => ?_⟩
    split at ev
    · rename_i ts hl
      split at ev
      · rename_i ts' t ho
        cases ev
        exact mut_end hr m2 (pa.step t2) r2 hl ho fun H' V m' t' r' => k g2 H' V m' (t1.trans (t2.trans t')) r'
      · cases ev
    · cases ev
  · cases ev
theorem fe_mut0 {op : List T → List T → Option (List T × T)} {r : V → List V → Hp → VK → Prop} {name : Str} {id : String} (slot : PySem.Slot "list" name id) (hty : typeOf (.builtin id) = pure (.type "method_descriptor")) (hm : MtR X id r) (hr : MutR X.kx op r) (ho : FP X a fp)
    (hbase : attributeBase a name X.env (eval a X.env) = eval a X.env := by rfl) (hline : (apos.endLine == cpos.line) = true := by rfl) : FE X (.Call (.Attribute a name apos) [] [] cpos) (fMut op fp aNil) :=
  pe_mono (pe_bm0 PySem.F.plainAttrs_list slot hty hm ho hbase hline) fun σ H Q ⟨b, g, s, v, s', m, ev, k⟩ => by
  obtain ⟨p, s1, e1, ev⟩ := bind_ok ev
  refine ⟨b, g, s, p, s1, m, e1, fun g1 H1 a m1 t1 pa => ?_⟩
  split at ev
  · rename_i ts0 hl0
    obtain ⟨xs, s2, e2, ev⟩ := bind_ok ev
    cases e2
    obtain ⟨vs0, q0, _⟩ := (m1.at pa (lstAt_at hl0)).1.lst_inv
    refine ⟨tyV_lst (K := X.kx) q0, ?_⟩
    split at ev
    · rename_i ts hl
      split at ev
      · rename_i ts' t ho
        cases ev
        exact mut_end hr m1 pa .nil hl ho fun H' V m' t' r' => k g1 H' V m' (t1.trans t') r'
      · cases ev
    · cases ev
  · cases ev
def muApp (ts xs : List T) : Option (List T × T) := match xs with
  | [x] => if ts.length < 16777216 then some (ts ++ [x], .non) else none
  | _ => none
theorem mr_app {K : Kx} : MutR K muApp rAppend := by
  intro g H a vs xs ts us ts' t Q h1 h2 h3 ho k
  unfold muApp at ho
  split at ho
  · split at ho
    · rename_i l
      cases ho
      obtain ⟨v, rfl, r⟩ := repL_one h3
      exact ⟨a, vs, v, rfl, rfl, h1, by rw [sizeLine_eq, h2.length]; exact l, k _ _ (h2.append (.cons r .nil)) .non⟩
    · cases ho
  · cases ho
def muPop (ts xs : List T) : Option (List T × T) := match ts[ts.length - 1]? with
  | some t => some (ts.dropLast, t)
  | none => none
theorem RepL.dropLast {K : Kx} {g : G} {H : Hp} : ∀ {vs : List V} {ts : List T}, RepL K g H vs ts → RepL K g H vs.dropLast ts.dropLast
  | _, _, .nil => .nil
  | _, _, .cons _ .nil => .nil
  | _, _, .cons a (.cons b c) => .cons a (RepL.dropLast (.cons b c))
theorem mr_pop {K : Kx} : MutR K (fun ts xs => match xs with | [] => muPop ts xs | _ => none) rPop := by
  intro g H a vs xs ts us ts' t Q h1 h2 h3 ho k
  cases h3 with
  | cons _ _ => cases ho
  | nil =>
    have ho : muPop ts [] = some (ts', t) := ho
    unfold muPop at ho
    split at ho
    · rename_i x hx
      cases ho
      obtain ⟨v, e, r⟩ := h2.get hx
      exact ⟨a, vs, v, rfl, rfl, h1, by rw [h2.length]; exact e, k _ _ h2.dropLast r⟩
    · cases ho
def muPop0 (ts xs : List T) : Option (List T × T) := match xs with | [] => muPop ts xs | _ => none
def muPopAt (ts xs : List T) : Option (List T × T) := match xs with
  | [.int i] => if 0 ≤ i ∧ i < 16777216 then match ts[i.toNat]? with
    | some t => some (ts.eraseIdx i.toNat, t)
    | none => none
    else none
  | _ => none
theorem RepL.eraseIdx {K : Kx} {g : G} {H : Hp} : ∀ {vs : List V} {ts : List T} (i : Nat), RepL K g H vs ts → RepL K g H (vs.eraseIdx i) (ts.eraseIdx i)
  | _, _, _, .nil => .nil
  | _, _, 0, .cons _ b => b
  | _, _, i + 1, .cons a b => .cons a (RepL.eraseIdx i b)
theorem mr_popAt {K : Kx} : MutR K muPopAt rPopAt := by
  intro g H a vs xs ts us ts' t Q h1 h2 h3 ho k
  unfold muPopAt at ho
  split at ho
  · rename_i i
    split at ho
    · rename_i c
      split at ho
      · rename_i x hx
        cases ho
        obtain ⟨v, e, r⟩ := h2.get hx
        obtain ⟨w, rfl, ri⟩ := repL_one h3
        cases rep_int ri
        have li := (List.getElem?_eq_some_iff.mp e).1
        refine ⟨a, vs, i, i.toNat, v, rfl, rfl, h1, by have := c.1; have z : (2 : Int) ^ 63 = 9223372036854775808 := by decide
                                                       rw [z]; omega, by have := c.2; have z : (2 : Int) ^ 63 = 9223372036854775808 := by decide
                                                                         rw [z]; omega, ?_, e, k _ _ (h2.eraseIdx _) r⟩
        unfold seqIndex?
        have c1 := c.1
        first
          | (simp only [c1, if_true, ite_true]; rw [if_pos (by omega)])
          | (split <;> first | rfl | omega)
          | (simp; omega)
      · cases ho
    · cases ho
  · cases ho
theorem RepL.set {K : Kx} {g : G} {H : Hp} {v : V} {t : T} (r : Rep K g H v t) : ∀ {vs : List V} {ts : List T} (i : Nat), RepL K g H vs ts → RepL K g H (vs.set i v) (ts.set i t)
  | _, _, _, .nil => .nil
  | _, _, 0, .cons _ b => .cons r b
  | _, _, i + 1, .cons a b => .cons a (RepL.set r i b)
end
end L2.Z
set_option Elab.async false
set_option linter.all false
set_option maxRecDepth 100000
set_option maxHeartbeats 2000000
namespace L2.Z
open PySem PySem.Spec PyProof.Rows
/-- a list (true), a tuple (false) with these items -/
def Sq (K : Kx) (k : Bool) (H : Hp) (a : Addr) (vs : List V) : Prop := if k = true then SqL K.K H a vs else SqT K.K H a vs ∧ ND K.K H a
def rdQ (K : Kx) (k : Bool) (f : Ea) : TE := fun σ H Q => ∃ b g s ts s', Sim K b g s σ H ∧ f s = .ok ts s' ∧ ∀ g' H' a vs, Sim K b g' s' σ H' → Step g H g' H' → Sq K k H' a vs → RepL K g' H' vs ts → Q (.ref a) H'
abbrev FQ (X : Cx) (k : Bool) (e : Expr) (f : Ea) : Prop := PE X e (rdQ X.kx k f)
def qPl (f : Ep) : Ea := fun s => (f s).bind fun p s1 => match s1.lstAt p with
  | some ts => .ok ts s1
  | none => .no
section
variable {X : Cx} {pos : Pos} {a c e : Expr} {f h : Ev} {fp : Ep} {fa fb : Ea} {es : List Expr} {k : Bool}
theorem fq_lst (he : FE X e f) : FQ X true e (iLst f) := pe_mono he fun σ H Q ⟨b, g, s, v, s', m, e, k⟩ => by
  obtain ⟨t, s1, e1, e⟩ := bind_ok e
  cases t with
  | lst ts =>
    cases e
    refine ⟨b, g, s, _, _, m, e1, fun g1 H1 V m1 t1 r1 => ?_⟩
    obtain ⟨a, us, rfl, h1, h2⟩ := rep_lst r1
    exact k g1 H1 a us m1 t1 h1 h2
  | _ => cases e
theorem fq_tup (he : FE X e f) : FQ X false e (iTp f) := pe_mono he fun σ H Q ⟨b, g, s, v, s', m, e, k⟩ => by
  obtain ⟨t, s1, e1, e⟩ := bind_ok e
  cases t with
  | tup ts =>
    cases e
    refine ⟨b, g, s, _, _, m, e1, fun g1 H1 V m1 t1 r1 => ?_⟩
    obtain ⟨a, us, rfl, h1, hn, h2⟩ := rep_tupN r1
    exact k g1 H1 a us m1 t1 ⟨h1, hn⟩ h2
  | _ => cases e
theorem fq_pl (he : FP X e fp) : FQ X true e (qPl fp) := pe_mono he fun σ H Q ⟨b, g, s, v, s', m, e, k⟩ => by
  obtain ⟨p, s1, e1, e⟩ := bind_ok e
  split at e
  · rename_i ts hl
    cases e
    refine ⟨b, g, s, p, _, m, e1, fun g' H' a m' t' pa => ?_⟩
    obtain ⟨vs, h1, h2⟩ := (m'.at pa (lstAt_at hl)).1.lst_inv
    exact k g' H' a vs m' t' (SqL.of h1) h2
  · cases e
theorem fq_ff (he : FF X e fa) : FQ X true e fa := pe_mono he fun σ H Q ⟨b, g, s, v, s', m, e, k⟩ => by
  refine ⟨b, g, s, v, s', m, e, fun g' H' Vs p m' t' r' hb => ?_⟩
  obtain ⟨g2, m2, t2, r2⟩ := m'.showVal hb r'
  obtain ⟨a, us, ea, h1, h2⟩ := rep_lst r2
  cases ea
  exact k g2 H' p us m2 (t'.trans t2) h1 h2
theorem sq_or {K : Kx} {H : Hp} {a : Addr} {vs : List V} (h : Sq K k H a vs) : SqL K.K H a vs ∨ SqT K.K H a vs := by
  cases k with
  | true => exact .inl h
  | false => exact .inr h.1
/-- one argument, a sequence -/
theorem fa_q (hq : FQ X k e fa) (hs : starEach [e] X.env = (false, eval e X.env) :: starEach [] X.env := by rfl) : PA X [e] (tCons (rdQ X.kx k fa) tNil) := pa_cons hq pa_nil hs
def fTupQ (f : Ea) : Ev := fun s => (f s).bind fun ts s1 => .ok (.tup ts) s1
theorem fe_tupQ {p : Pos} (hg : Gl X "tuple") (hm : X.mg "tuple" = none) (hq : FQ X k e fa) (he : starEach (e :: []) X.env = (false, eval e X.env) :: starEach [] X.env := by rfl) : FE X (.Call (.Name "tuple" p) [e] [] pos) (fTupQ fa) :=
  pe_mono (pe_callTy call_tupZ hg hm (by decide +kernel) (fa_q hq he) (by decide) (by decide) he (by rfl)) fun σ H Q ⟨b, g, s, v, s', m, e, q⟩ => by
    obtain ⟨ts, s1, e1, e⟩ := bind_ok e
    cases e
    refine ⟨b, g, s, ts, _, m, e1, fun g' H' a vs m' t' hs hr => ⟨a, vs, rfl, ?_⟩⟩
    cases k with
    | true => exact .inl ⟨hs, fun p o hp hd => q _ _ _ (m'.ext (Ext.new hp)) (t'.trans (Step.ext (Ext.new hp))) (.new hd hp hr)⟩
    | false => exact .inr ⟨hs.1, q _ _ _ m' t' (.tup hs.1 hs.2 hr)⟩
/-- p op e, of values alone -/
def fCmpP (op : T → T → Option T) (f : Ep) (h : Ev) : Ev := fun s => (f s).bind fun p s1 => (h s1).bind fun t s2 => match s2.lstAt p with
  | some ts => if pures ts = true ∧ t.pure = true then match op (.lst ts) t with
    | some (.bl c) => .ok (.bl c) s2
    | _ => .no
    else .no
  | none => .no
/-- e op p -/
def fCmpR (op : T → T → Option T) (h : Ev) (f : Ep) : Ev := fun s => (h s).bind fun t s1 => (f s1).bind fun p s2 => match s2.lstAt p with
  | some ts => if pures ts = true ∧ t.pure = true then match op t (.lst ts) with
    | some (.bl c) => .ok (.bl c) s2
    | _ => .no
    else .no
  | none => .no
theorem Sim.lstNil {K : Kx} {b : B} {g : G} {s : S} {σ : St} {H : Hp} {p : Pl} {a : Addr} {ts : List T} (m : Sim K b g s σ H) (pa : PAddr g p a) (hl : s.lstAt p = some ts) (hp : pures ts = true) : Rep K G.nil H (.ref a) (.lst ts) := by
  obtain ⟨vs, h1, h2⟩ := (m.at pa (lstAt_at hl)).1.lst_inv
  exact .lst h1 (by simp [G.nil]) (RepL.pnil hp h2)
theorem tCmpP_of {K : Kx} {op : T → T → Option T} {σ : St} {H : Hp} {Q : VK} (q : rd K (fCmpP op fp h) σ H Q) : tOp (rOp K op) (rdP K fp) (rd K h) σ H Q := by
  obtain ⟨b, g, s, v, s', m, e, k⟩ := q
  obtain ⟨p, s1, e1, e⟩ := bind_ok e
  obtain ⟨t, s2, e2, e⟩ := bind_ok e
  refine ⟨b, g, s, p, s1, m, e1, fun g1 H1 a m1 t1 pa => ⟨b, g1, s1, t, s2, m1, e2, fun g2 H2 W m2 t2 r2 => ?_⟩⟩
  split at e
  · rename_i ts hl
    split at e
    · rename_i c
      split at e
      · rename_i c' ho
        cases e
        refine ⟨G.nil, _, t, _, fun a h => by simp [G.nil] at h, m2.lstNil (pa.step t2) hl c.1, Rep.nil c.2 r2, ho, fun V H' ext rV => ?_⟩
        cases rep_bl rV
        exact k g2 H' _ (m2.ext ext) (t1.trans (t2.trans (Step.ext ext))) (.bl _)
      · cases e
    · cases e
  · cases e
theorem tCmpR_of {K : Kx} {op : T → T → Option T} {σ : St} {H : Hp} {Q : VK} (q : rd K (fCmpR op h fp) σ H Q) : tOp (rOp K op) (rd K h) (rdP K fp) σ H Q := by
  obtain ⟨b, g, s, v, s', m, e, k⟩ := q
  obtain ⟨t, s1, e1, e⟩ := bind_ok e
  obtain ⟨p, s2, e2, e⟩ := bind_ok e
  refine ⟨b, g, s, t, s1, m, e1, fun g1 H1 W m1 t1 r1 => ⟨b, g1, s1, p, s2, m1, e2, fun g2 H2 a m2 t2 pa => ?_⟩⟩
  split at e
  · rename_i ts hl
    split at e
    · rename_i c
      split at e
      · rename_i c' ho
        cases e
        refine ⟨G.nil, t, _, _, fun a h => by simp [G.nil] at h, Rep.nil c.2 (r1.step t2), m2.lstNil pa hl c.1, ho, fun V H' ext rV => ?_⟩
        cases rep_bl rV
        exact k g2 H' _ (m2.ext ext) (t1.trans (t2.trans (Step.ext ext))) (.bl _)
      · cases e
    · cases e
  · cases e
theorem rd_tE {K : Kx} {f : Ev} {σ : St} {H : Hp} {Q : Bool → Hp → Prop} (q : rdT K (tE f) σ H Q) : rd K f σ H fun x H' => ∃ k, x = .bl k ∧ Q k H' := tB_of q
theorem ft_cmpP {op : T → T → Option T} {o : CmpOp} (ho : OpR X (compareOp o) (rOp X.kx op)) (ha : FP X a fp) (hc : FE X c h) (hm : behindInMarks o c = false := by first | exact nobehind _ (by decide) (by decide) | rfl) : FT X (.Compare a [o] [c] pos) (tE (fCmpP op fp h)) := pt_mono (pt_cmpR ho ha hc hm) fun _ _ _ q => tCmpP_of (rd_tE q |> fun z => z)
theorem ft_cmpR {op : T → T → Option T} {o : CmpOp} (ho : OpR X (compareOp o) (rOp X.kx op)) (ha : FE X a h) (hc : FP X c fp) (hm : behindInMarks o c = false := by first | exact nobehind _ (by decide) (by decide) | rfl) : FT X (.Compare a [o] [c] pos) (tE (fCmpR op h fp)) := pt_mono (pt_cmpR ho ha hc hm) fun _ _ _ q => tCmpR_of (rd_tE q |> fun z => z)
abbrev Eo := S → R (Option Int)
def rdO (K : Kx) (f : Eo) : TO := fun σ H Q => ∃ b g s o s', Sim K b g s σ H ∧ f s = .ok o s' ∧ ∀ g' H', Sim K b g' s' σ H' → Step g H g' H' → Q o H'
abbrev FO (X : Cx) (e : Option Expr) (f : Eo) : Prop := PO X e (rdO X.kx f)
def oNo : Eo := fun s => .ok none s
def oOf (f : Ev) : Eo := fun s => (f s).bind fun t s1 => match t with
  | .int i => .ok (some i) s1
  | _ => .no
theorem po_mono {e : Option Expr} {t t' : TO} (h : PO X e t) (w : ∀ σ H Q, t' σ H Q → t σ H Q) : PO X e t' := ⟨fun pins s σ H Q I q => h.run pins s σ H Q I (w σ H Q q)⟩
theorem fo_no : FO X none oNo := po_mono po_none fun σ H Q ⟨b, g, s, o, s', m, e, k⟩ => by cases e; exact k g H m Step.refl
theorem fo_of (he : FE X e f) : FO X (some e) (oOf f) := po_mono (po_some he) fun σ H Q ⟨b, g, s, o, s', m, e, k⟩ => by
  obtain ⟨t, s1, e1, e⟩ := bind_ok e
  cases t with
  | int i =>
    cases e
    exact ⟨b, g, s, _, _, m, e1, fun g' H' V m' t' r' => ⟨i, rep_int r', k g' H' m' t'⟩⟩
  | _ => cases e
def cutT (ts : List T) (lo hi : Option Int) : List T := (ts.drop (HT.sIx ts.length 0 lo)).take (HT.sIx ts.length ts.length hi - HT.sIx ts.length 0 lo)
theorem RepL.drop {K : Kx} {g : G} {H : Hp} : ∀ {vs : List V} {ts : List T} (n : Nat), RepL K g H vs ts → RepL K g H (vs.drop n) (ts.drop n)
  | _, _, 0, r => r
  | _, _, _ + 1, .nil => .nil
  | _, _, n + 1, .cons _ r => r.drop n
theorem RepL.take {K : Kx} {g : G} {H : Hp} : ∀ {vs : List V} {ts : List T} (n : Nat), RepL K g H vs ts → RepL K g H (vs.take n) (ts.take n)
  | _, _, 0, r => .nil
  | _, _, _ + 1, .nil => .nil
  | _, _, n + 1, .cons a r => .cons a (r.take n)
theorem RepL.cut {K : Kx} {g : G} {H : Hp} {vs : List V} {ts : List T} (r : RepL K g H vs ts) (lo hi : Option Int) : RepL K g H (cutV vs lo hi) (cutT ts lo hi) := by
  unfold cutV cutT
  rw [r.length]
  exact (r.drop _).take _
def aRg (f : Ev) : Ea := fun s => (f s).bind fun t s1 => match t with
  | .int j => if -1000000 ≤ j ∧ j ≤ 1000000 then .ok (rngT 0 j.toNat) s1 else .no
  | _ => .no
theorem rg_rep {K : Kx} {g : G} {H : Hp} {j : Int} : RepL K g H (rgV 0 j) (rngT 0 j.toNat) := by
  refine RepL.of (by rw [rgV_length, Int.sub_zero]; simp [rngT]) fun i v t h1 h2 => ?_
  unfold rgV at h1
  unfold rngT at h2
  rw [List.getElem?_map, Int.sub_zero] at h1
  rw [List.getElem?_map] at h2
  cases q : (List.range j.toNat)[i]? with
  | none => rw [q] at h1; cases h1
  | some n =>
    rw [q] at h1 h2
    cases h1
    cases h2
    exact .int _
theorem rgOk {j : Int} (h : -1000000 ≤ j ∧ j ≤ 1000000) : RgOk 0 j := by
  unfold RgOk
  have := h.1
  have := h.2
  first | omega | (refine ⟨?_, ?_, ?_, ?_, ?_⟩ <;> omega) | (constructor <;> omega)
theorem ff_lstRg {p p' pos' : Pos} (hc : X.calm = true) (hg : Gl X "list") (hm : X.mg "list" = none) (hg' : Gl X "range") (hm' : X.mg "range" = none) (he : FE X e f) (na : starEach [e] X.env = (false, eval e X.env) :: starEach [] X.env := by rfl)
    (nb : starEach [.Call (.Name "range" p') [e] [] pos'] X.env = (false, eval (.Call (.Name "range" p') [e] [] pos') X.env) :: starEach [] X.env := by rfl) : FF X (.Call (.Name "list" p) [.Call (.Name "range" p') [e] [] pos'] [] pos) (aRg f) := pe_mono (pe_listRg hc hg hm (prg_1 hg' hm' he na) nb) fun σ H Q ⟨b, g, s, v, s', m, e, k⟩ => by
  obtain ⟨t, s1, e1, e⟩ := bind_ok e
  cases t with
  | int j =>
    by_cases c : -1000000 ≤ j ∧ j ≤ 1000000
    · have e : (if -1000000 ≤ j ∧ j ≤ 1000000 then R.ok (rngT 0 j.toNat) s1 else .no) = .ok v s' := e
      rw [if_pos c] at e
      cases e
      exact ⟨b, g, s, _, _, m, e1, fun g' H' V m' t' r' => ⟨j, rep_int r', rgOk c, fun p hp => k _ _ _ p (m'.hide hp trivial) (t'.trans (step_new hp)) (rg_rep.step (step_new hp)) (m'.hidn' hp)⟩⟩
    · have e : (if -1000000 ≤ j ∧ j ≤ 1000000 then R.ok (rngT 0 j.toNat) s1 else .no) = .ok v s' := e
      rw [if_neg c] at e
      cases e
  | _ => cases e
def fTupRg (f : Ev) : Ev := fTupQ (aRg f)
theorem fe_tupRg {p p' pos' : Pos} (hc : X.calm = true) (hg : Gl X "tuple") (hm : X.mg "tuple" = none) (hg' : Gl X "range") (hm' : X.mg "range" = none) (he : FE X e f) (na : starEach [e] X.env = (false, eval e X.env) :: starEach [] X.env := by rfl)
    (nb : starEach [.Call (.Name "range" p') [e] [] pos'] X.env = (false, eval (.Call (.Name "range" p') [e] [] pos') X.env) :: starEach [] X.env := by rfl) : FE X (.Call (.Name "tuple" p) [.Call (.Name "range" p') [e] [] pos'] [] pos) (fTupRg f) := pe_mono (pe_tupRgZ hc hg hm (prg_1 hg' hm' he na) nb) fun σ H Q ⟨b, g, s, v, s', m, e, k⟩ => by
  obtain ⟨ts, s0, e0, e⟩ := bind_ok e
  cases e
  obtain ⟨t, s1, e1, e⟩ := bind_ok e0
  cases t with
  | int j =>
    by_cases c : -1000000 ≤ j ∧ j ≤ 1000000
    · have e : (if -1000000 ≤ j ∧ j ≤ 1000000 then R.ok (rngT 0 j.toNat) s1 else .no) = .ok ts s' := e
      rw [if_pos c] at e
      cases e
      exact ⟨b, g, s, _, _, m, e1, fun g' H' V m' t' r' => ⟨j, rep_int r', rgOk c, fun p o hp hd => k _ _ _ (m'.ext (Ext.new hp)) (t'.trans (Step.ext (Ext.new hp))) (.new hd hp rg_rep)⟩⟩
    · have e : (if -1000000 ≤ j ∧ j ≤ 1000000 then R.ok (rngT 0 j.toNat) s1 else .no) = .ok ts s' := e
      rw [if_neg c] at e
      cases e
  | _ => cases e
def isBls : List T → Option (List Bool)
  | [] => some []
  | .bl c :: r => (isBls r).map (c :: ·)
  | _ => none
def fAll (f : Ea) : Ev := fun s => (f s).bind fun ts s1 => match isBls ts with
  | some bs => .ok (.bl (bs.all id)) s1
  | none => .no
theorem bls_rep {K : Kx} {g : G} {H : Hp} : ∀ {vs : List V} {ts : List T} {bs : List Bool}, RepL K g H vs ts → isBls ts = some bs → vs = bs.map V.bl
  | _, _, _, .nil, h => by cases h; rfl
  | _, _, _, .cons (t := t) (ts := ts) r rr, h => by
    cases t with
    | bl c =>
      have h : (isBls ts).map (c :: ·) = some _ := h
      cases q : isBls ts with
      | none => rw [q] at h; cases h
      | some bs =>
        rw [q] at h
        cases h
        cases r
        rw [bls_rep rr q]; rfl
    | _ => cases h
theorem fe_all {p : Pos} (hc : X.calm = true) (hg : Gl X "all") (hm : X.mg "all" = none) (hq : FQ X true e fa) (he : starEach (e :: []) X.env = (false, eval e X.env) :: starEach [] X.env := by rfl) : FE X (.Call (.Name "all" p) [e] [] pos) (fAll fa) :=
  pe_mono (pe_callB (cr_all hc) hg hm (by decide +kernel) (fa_q hq he) (by decide) (by decide) he (by rfl)) fun σ H Q ⟨b, g, s, v, s', m, e, q⟩ => by
    obtain ⟨ts, s1, e1, e⟩ := bind_ok e
    split at e
    · rename_i bs hb
      cases e
      exact ⟨b, g, s, ts, _, m, e1, fun g' H' a vs m' t' hs hr => ⟨a, bs, rfl, bls_rep hr hb ▸ hs, q _ _ _ m' t' (.bl _)⟩⟩
    · cases e
end
end L2.Z
set_option Elab.async false
set_option linter.all false
set_option maxRecDepth 100000
set_option maxHeartbeats 2000000
namespace L2.Z
open PySem PySem.Spec PyProof.Rows
section
variable {X : Cx} {pins : List (Addr × Obj)} {σ : St} {H : Hp} {s : Shared} {g : G}
mutual
theorem nest_is (I : Inv X pins σ H s) : ∀ {v : V} {t : T} {k : NestedKey} {u : Value}, Rep X.kx g H v t → nk0 t = some k → RelV v u → NestedIs s.heap k u
  | _, _, _, _, .int i, h, r => by
    cases h
    obtain ⟨t, rfl⟩ := (show ∃ t, _ = Value.int i t from r)
    exact .int i t
  | _, _, _, _, .str z, h, r => by
    cases h
    obtain ⟨t, rfl⟩ := (show ∃ t, _ = Value.str z t from r)
    exact .text z t
  | _, _, k, u, .tup (a := a) (vs := vs) (ts := ts) h1 _ h2, h, r => by
    obtain rfl : u = Value.ref a := r
    have h : (nks ts).map NestedKey.tup = some k := h
    cases q : nks ts with
    | none => rw [q] at h; cases h
    | some ks =>
      rw [q] at h
      cases h
      obtain ⟨its, rv, ⟨o, e1, e2, n, e3⟩, _⟩ := I.tuple (show SqT X.K H a vs from h1)
      refine .tup e1 e2 e3 ?_
      rw [List.toList_toArray]
      exact nest_all I h2 q rv
  | _, _, _, _, .non, h, _ => by cases h
  | _, _, _, _, .bl _, h, _ => by cases h
  | _, _, _, _, .lst _ _ _, h, _ => by cases h
  | _, _, _, _, .lstF _ _, h, _ => by cases h
  | _, _, _, _, .dct _ _ _, h, _ => by cases h
  | _, _, _, _, .dcn _ _ _ _, h, _ => by cases h
  | _, _, _, _, .loc _, h, _ => by cases h
  | _, _, _, _, .pr _ _, h, _ => by cases h
theorem nest_all (I : Inv X pins σ H s) : ∀ {vs : List V} {ts : List T} {ks : List NestedKey} {us : List Value}, RepL X.kx g H vs ts → nks ts = some ks → Vals vs us → NestedAll s.heap ks us
  | _, _, _, _, .nil, h, r => by
    cases h
    cases r
    exact .nil
  | _, _, _, _, .cons (t := t) (ts := ts) a b, h, r => by
    have h : (nk0 t).bind (fun k => (nks ts).map fun r => k :: r) = some _ := h
    cases q : nk0 t with
    | none => rw [q] at h; cases h
    | some k =>
      rw [q] at h
      have h : (nks ts).map (fun r => k :: r) = some _ := h
      cases q2 : nks ts with
      | none => rw [q2] at h; cases h
      | some r2 =>
        rw [q2] at h
        cases h
        cases r with
        | cons r1 r2 => exact .cons (nest_is I a q r1) (nest_all I b q2 r2)
end
/-- the tuple at b is the key k -/
def KOk (K : Kx) (H : Hp) (b : Addr) (k : NestedKey) : Prop := ∃ g t, Rep K g H (.ref b) t ∧ nkey t = some k
theorem nkey_ok {t : T} {k : NestedKey} (h : nkey t = some k) : nk0 t = some k ∧ k.depth ≤ 8 := by
  unfold nkey at h
  cases q : nk0 t with
  | none => rw [q] at h; cases h
  | some k' =>
    rw [q] at h
    have h : (if k'.depth ≤ 8 then some k' else none) = some k := h
    split at h
    · rename_i l; cases h; exact ⟨rfl, l⟩
    · cases h
theorem KOk.is {b : Addr} {k : NestedKey} (h : KOk X.kx H b k) (I : Inv X pins σ H s) : (nestedKind X.prog X.w).is s.heap k b := by
  obtain ⟨g, t, r, e⟩ := h
  exact ⟨nest_is I r (nkey_ok e).1 rfl, (nkey_ok e).2⟩
end
abbrev P2 : List (NestedKey × Addr × V) → List (NestedKey × Addr × Value) → Prop := Paired fun p q => p.1 = q.1 ∧ p.2.1 = q.2.1 ∧ RelV p.2.2 q.2.2
def nAt (kvs : List (NestedKey × Addr × V)) (k : NestedKey) : Option V := match kvs with
  | [] => none
  | p :: r => if p.1 = k then some p.2.2 else nAt r k
def nPut (kvs : List (NestedKey × Addr × V)) (k : NestedKey) (b : Addr) (v : V) : List (NestedKey × Addr × V) :=
  if (nAt kvs k).isSome = true then kvs.map fun p => if p.1 = k then (p.1, p.2.1, v) else p else kvs ++ [(k, b, v)]
theorem P2.val {kvs : List (NestedKey × Addr × V)} {xs : List (NestedKey × Addr × Value)} (r : P2 kvs xs) (k : NestedKey) : RelO (nAt kvs k) ((atKey xs k).map (·.2)) := by
  induction r with
  | nil => exact True.intro
  | @cons p q ps qs hd tl ih =>
    by_cases e : p.1 = k
    · have e2 : atKey (q :: qs) k = some q.2 := by simp [atKey, List.find?_cons, ← hd.1, e]
      rw [e2, nAt, if_pos e]
      exact hd.2.2
    · have e2 : atKey (q :: qs) k = atKey qs k := by simp [atKey, List.find?_cons, ← hd.1, e]
      rw [e2, nAt, if_neg e]
      exact ih
theorem P2.put {kvs : List (NestedKey × Addr × V)} {xs : List (NestedKey × Addr × Value)} (r : P2 kvs xs) (k : NestedKey) (b : Addr) {v : V} {u : Value} (rv : RelV v u) : P2 (nPut kvs k b v) (storedH xs k b u) := by
  have z := (r.val k).isSome_eq
  rw [Option.isSome_map] at z
  unfold nPut storedH
  rw [z]
  split
  · clear z
    rename_i c
    clear c
    induction r with
    | nil => exact .nil
    | @cons p q ps qs hd tl ih =>
      refine .cons ?_ ih
      obtain ⟨q1, q2, q3⟩ := hd
      by_cases e : p.1 = k
      · dsimp only
        rw [if_pos e]
        unfold putAt
        rw [if_pos (q1 ▸ e)]
        exact ⟨q1, q2, rv⟩
      · dsimp only
        rw [if_neg e]
        unfold putAt
        rw [if_neg (fun z => e (q1 ▸ z))]
        exact ⟨q1, q2, q3⟩
  · exact Paired.snoc r ⟨rfl, rfl, rv⟩
/-- what the dict at a holds at y -/
def NGet (K : Kx) (H : Hp) (a : Addr) (y : V) (o : Option V) : Prop := DGet H a y o ∨ ∃ kvs k b, DN K.P K.w H a kvs ∧ y = .ref b ∧ o = nAt kvs k ∧ KOk K H b k ∧ ∀ p ∈ kvs, KOk K H p.2.1 p.1
def NPut (K : Kx) (H : Hp) (a : Addr) (y v : V) (H' : Hp) : Prop := DPut H a y v H' ∨
  ∃ kvs k b, DN K.P K.w H a kvs ∧ y = .ref b ∧ KOk K H b k ∧ (∀ p ∈ kvs, KOk K H p.2.1 p.1) ∧ kvs.length < sizeLine ∧ H' = upd H a (dN K.P K.w a (nPut kvs k b v))
theorem dN_mut {P : Program} {w : World} {a : Addr} {kvs : List (NestedKey × Addr × V)} : Mut (some (dN P w a kvs)) := trivial
section
variable {X : Cx} {pins : List (Addr × Obj)} {σ : St} {H H' : Hp} {s : Shared} {a : Addr} {y v : V} {u r : Value} {o : Option V} {A : Around} {E : Value → Shared → Prop}
theorem dn_at {kvs : List (NestedKey × Addr × V)} (I : Inv X pins σ H s) (h : DN X.prog X.w H a kvs) (hk : ∀ p ∈ kvs, KOk X.kx H p.2.1 p.1) : kvs.length ≤ sizeLine ∧ (a == sysModules) = false ∧ ∃ xs, P2 kvs xs ∧ s.heap.DictOfH (nestedKind X.prog X.w) a xs := by
  rcases h with h | ⟨rfl, h⟩
  · obtain ⟨⟨l, n, xs, p, o, es, ep, e1, e2, e3, e4, e5⟩, _⟩ := (show ObjOk X.prog X.w H s.heap a (dN X.prog X.w a kvs) from I.hok a _ h)
    refine ⟨l, n, xs, p, o, es, ep, e1, e2, e3, e4, fun x hx => ?_, e5⟩
    have all : ∀ {l : List (NestedKey × Addr × V)} {m : List (NestedKey × Addr × Value)}, P2 l m → (∀ p ∈ l, KOk X.kx H p.2.1 p.1) → ∀ x ∈ m, (nestedKind X.prog X.w).is s.heap x.1 x.2.1 := by
      intro l m q
      induction q with
      | nil => intro _ x hx; cases hx
      | @cons c d cs ds hd tl ih =>
        intro hl x hx
        rcases List.mem_cons.mp hx with rfl | hx
        · rw [← hd.1, ← hd.2.1]
          exact (hl c (List.mem_cons_self ..)).is I
        · exact ih (fun p hp => hl p (List.mem_cons_of_mem _ hp)) x hx
    exact all p hk x hx
  · obtain ⟨l, n, vs, rv, o, es, ep, e1, e2, e3, e4, e5, e6⟩ := dk_of I.hok h
    cases rv
    refine ⟨l, n, [], .nil, o, es, ep, e1, e2, e3, ?_, fun x hx => (by cases hx), List.nodup_nil⟩
    exact List.eq_nil_of_length_eq_zero e5.length
theorem nroom {P : Program} {w : World} (hu : A.units + 12 < cLine) : (nestedKind P w).room A.in1 := by
  show A.in1.units + 8 < cLine
  have : A.in1.units ≤ A.units + 1 := by first | exact Nat.le_refl _ | (simp [Around.in1])
  omega
theorem unit1 (hu : A.units + 12 < cLine) : A.units + 1 < cLine := by omega
theorem n_getItem {Q : Value → Shared → Prop} (hu : A.units + 12 < cLine) (I : Inv X pins σ H s) (d : NGet X.kx H a y (some v)) (ry : RelV y u) (h : ∀ w' s', Inv X pins σ H s' → RelV v w' → Q w' s') : wpAny (model X.prog X.w) A (getItem (.ref a) u) Q E s := by
  rcases d with d | ⟨kvs, k, b, dn, rfl, ho, hk, hks⟩
  · exact d_getItem (unit1 hu) I d ry h
  · obtain rfl : u = Value.ref b := ry
    obtain ⟨_, _, xs, p2, dd⟩ := dn_at I dn hks
    obtain ⟨w', hw, rw'⟩ := RelO.some_of (v := v) (o := (atKey xs k).map (·.2)) (by rw [ho]; exact p2.val k)
    obtain ⟨p, hp, hp2⟩ := Option.map_eq_some_iff.mp hw
    exact wpAny_getItem_heap (nroom hu) (hk.is I) dd hp (by rw [hp2]; exact h w' _ (I.tok _) rw')
theorem n_notIn {Q : Value → Shared → Prop} (hu : A.units + 12 < cLine) (I : Inv X pins σ H s) (d : NGet X.kx H a y o) (ry : RelV y u) (h : ∀ s', Inv X pins σ H s' → Q (.bool (!o.isSome)) s') : wpAny (model X.prog X.w) A (compareOp .NotIn u (.ref a)) Q E s := by
  rcases d with d | ⟨kvs, k, b, dn, rfl, ho, hk, hks⟩
  · exact d_notIn (unit1 hu) I d ry h
  · obtain rfl : u = Value.ref b := ry
    obtain ⟨_, n, xs, p2, dd⟩ := dn_at I dn hks
    have q := (p2.val k).isSome_eq
    rw [Option.isSome_map] at q
    exact wpAny_notIn_heap (nroom hu) (hk.is I) n dd (by rw [← q, ← ho]; exact h _ (I.tok _))
theorem nPut_length (kvs : List (NestedKey × Addr × V)) (k : NestedKey) (b : Addr) (v : V) : (nPut kvs k b v).length ≤ kvs.length + 1 := by
  unfold nPut
  split <;> simp
theorem n_setItem {Q : Unit → Shared → Prop} (hu : A.units + 12 < cLine) (I : Inv X pins σ H s) (d : NPut X.kx H a y v H') (ry : RelV y u) (rv : RelV v r) (h : ∀ s', Inv X pins σ H' s' → Q () s') : wpAny (model X.prog X.w) A (setItem (.ref a) u r) Q E s := by
  rcases d with d | ⟨kvs, k, b, dn, rfl, hk, hks, hl, rfl⟩
  · exact d_setItem (unit1 hu) I d ry rv h
  · obtain rfl : u = Value.ref b := ry
    obtain ⟨z, n, xs, p2, dd⟩ := dn_at I dn hks
    have mu : L2.Mut (H a) := by
      rcases dn with e | ⟨_, e⟩
      · rw [e]; exact True.intro
      · rw [e]; exact True.intro
    refine wpAny_setItem_heap (hsz := by rw [← Paired.length p2]; exact z) (nroom hu) (hk.is I) dd fun h' dd' hs => h _ ?_
    obtain ⟨q, es, ep, hq, h2, h3, h4, _, h5⟩ := dd'
    have hl2 : (nPut kvs k b v).length ≤ sizeLine := by have := nPut_length kvs k b v; omega
    exact d_write I mu hs ⟨q, hq⟩ ⟨⟨hl2, n, _, p2.put k b rv, q, es, ep, hq, h2, h3, h4, h5⟩, ⟨q, hq⟩, fun h1 h2' ⟨l, n, xs, p, o, es, ep, e1, er⟩ kk => ⟨l, n, xs, p, o, es, ep, kk _ e1, er⟩⟩
theorem n_isDict (I : Inv X pins σ H s) (d : NGet X.kx H a y o) : s.TypeIs (.ref a) "dict" := by
  rcases d with d | ⟨kvs, k, b, dn, rfl, ho, hk, hks⟩
  · exact dict_typeIs I d
  · obtain ⟨_, n, xs, p2, dd⟩ := dn_at I dn hks
    exact dd.typeIs
end
def isKeyT : T → Bool
  | .int _ => true
  | .str _ => true
  | t => isTupT t && (nkey t).isSome
/-- t may be a key beside the keys ks -/
def keyOk (ks : List T) (t : T) : Bool := isKeyT t && ks.all fun k => isTupT k == isTupT t
def dLook : List T → List T → T → Option T
  | k :: ks, v :: vs, t => if nk0 k = nk0 t then some v else dLook ks vs t
  | _, _, _ => none
def dRepl : List T → List T → T → T → List T
  | k :: ks, v :: vs, t, x => (if nk0 k = nk0 t then x else v) :: dRepl ks vs t x
  | _, vs, _, _ => vs
/-- d[t] = x -/
def dPutT (ks vs : List T) (t x : T) : List T × List T := if (dLook ks vs t).isSome = true then (ks, dRepl ks vs t x) else (ks ++ [t], vs ++ [x])
def OptRep (K : Kx) (g : G) (H : Hp) : Option V → Option T → Prop
  | none, none => True
  | some v, some t => Rep K g H v t
  | _, _ => False
def kT : Key → T
  | .inl i => .int i
  | .inr s => .str s
section
variable {K : Kx} {g : G} {H : Hp}
theorem keys_eq : ∀ {kvs : List (Key × V)} {ks : List T}, RepL K g H (kvs.map fun p => kV p.1) ks → ks = kvs.map fun p => kT p.1
  | [], _, r => by cases r; rfl
  | (.inl i, v) :: kvs, _, r => by
    cases r with
    | cons a b => cases a; rw [keys_eq b]; rfl
  | (.inr i, v) :: kvs, _, r => by
    cases r with
    | cons a b => cases a; rw [keys_eq b]; rfl
theorem nk0_kT {a b : Key} : nk0 (kT a) = nk0 (kT b) ↔ a = b := by
  cases a <;> cases b <;> simp [kT, nk0]
theorem look_k (k : Key) : ∀ {kvs : List (Key × V)} {ts : List T}, RepL K g H (kvs.map (·.2)) ts → OptRep K g H (valV kvs k) (dLook (kvs.map fun p => kT p.1) ts (kT k))
  | [], _, r => by cases r; exact True.intro
  | p :: kvs, _, r => by
    cases r with
    | cons a b =>
      show OptRep K g H (valV (p :: kvs) k) (if nk0 (kT p.1) = nk0 (kT k) then _ else _)
      by_cases e : p.1 = k
      · rw [valV_pos e, if_pos (nk0_kT.mpr e)]
        exact a
      · rw [valV_neg e, if_neg (fun z => e (nk0_kT.mp z))]
        exact look_k k b
theorem look_n {k : NestedKey} {t : T} (ht : nk0 t = some k) : ∀ {kvs : List (NestedKey × Addr × V)} {ks ts : List T}, RepL K g H (kvs.map (·.2.2)) ts → ks.map nkey = kvs.map (fun p => some p.1) → OptRep K g H (nAt kvs k) (dLook ks ts t)
  | [], ks, _, r, e => by
    cases r
    cases ks with
    | nil => exact True.intro
    | cons _ _ => simp at e
  | p :: kvs, ks, _, r, e => by
    cases ks with
    | nil => simp at e
    | cons c ks =>
      rw [List.map_cons, List.map_cons] at e
      injection e with e1 e2
      have e1 := (nkey_ok e1).1
      cases r with
      | cons a b =>
        show OptRep K g H (if p.1 = k then _ else _) (if nk0 c = nk0 t then _ else _)
        by_cases q : p.1 = k
        · rw [if_pos q, if_pos (by rw [e1, ht, q])]
          exact a
        · rw [if_neg q, if_neg (fun z => q (by rw [e1, ht] at z; injection z))]
          exact look_n ht b e2
theorem keyOk_iff {ks : List T} {t : T} (h : keyOk ks t = true) : isKeyT t = true ∧ ∀ k ∈ ks, isTupT k = isTupT t := by
  unfold keyOk at h
  rw [Bool.and_eq_true, List.all_eq_true] at h
  exact ⟨h.1, fun k hk => by simpa using h.2 k hk⟩
theorem tup_of_nkey {b : Addr} {t : T} {k : NestedKey} (r : Rep K g H (.ref b) t) (h : nkey t = some k) : isTupT t = true := by
  cases r <;> first | rfl | (exfalso; simp [nkey, nk0] at h)
theorem kok_all {kvs : List (NestedKey × Addr × V)} {ks : List T} (r : RepL K g H (kvs.map fun p => .ref p.2.1) ks) (e : ks.map nkey = kvs.map (fun p => some p.1)) : ∀ p ∈ kvs, KOk K H p.2.1 p.1 := fun p hp => by
  obtain ⟨i, hi⟩ := List.mem_iff_getElem?.mp hp
  obtain ⟨t, h1, h2⟩ := r.get' (i := i) (v := .ref p.2.1) (by rw [List.getElem?_map, hi]; rfl)
  have q : (ks.map nkey)[i]? = (kvs.map (fun p => some p.1))[i]? := by rw [e]
  rw [List.getElem?_map, List.getElem?_map, hi, h1] at q
  exact ⟨g, t, h2, by simpa using q⟩
/-- the two kinds of a dict, by a key that may stand in it -/
theorem dic_cases {a : Addr} {ks ts : List T} {y : V} {t : T} (r : ORep K g H a (.dic ks ts)) (ry : Rep K g H y t) (hk : keyOk ks t = true) :
    (∃ kvs k, H a = some (.dK kvs) ∧ y = kV k ∧ t = kT k ∧ ks = kvs.map (fun p => kT p.1) ∧ RepL K g H (kvs.map (·.2)) ts) ∨
    ∃ kvs k b, DN K.P K.w H a kvs ∧ y = .ref b ∧ nkey t = some k ∧ KOk K H b k ∧ RepL K g H (kvs.map fun p => .ref p.2.1) ks ∧ RepL K g H (kvs.map (·.2.2)) ts ∧ ks.map nkey = kvs.map (fun p => some p.1) := by
  obtain ⟨k1, k2⟩ := keyOk_iff hk
  have tupc : isTupT t = true → ∃ b k, y = .ref b ∧ nkey t = some k ∧ KOk K H b k := fun z => by
    cases t with
    | tup us =>
      obtain ⟨b, vs, rfl, h1, h2⟩ := rep_tup ry
      have k1 : (true && (nkey (.tup us)).isSome) = true := k1
      rw [Bool.true_and] at k1
      obtain ⟨k, hk⟩ := Option.isSome_iff_exists.mp k1
      exact ⟨b, k, rfl, hk, g, _, ry, hk⟩
    | _ => cases z
  cases r with
  | dic h1 h2 h3 =>
    rename_i kvs
    have ke := keys_eq h2
    cases t with
    | int i => exact .inl ⟨kvs, .inl i, h1, rep_int ry, rfl, ke, h3⟩
    | str i => exact .inl ⟨kvs, .inr i, h1, rep_str ry, rfl, ke, h3⟩
    | tup us =>
      right
      obtain ⟨b, k, e1, e2, e3⟩ := tupc rfl
      cases kvs with
      | nil =>
        subst ke
        cases h3
        exact ⟨[], k, b, .inr ⟨rfl, h1⟩, e1, e2, e3, .nil, .nil, rfl⟩
      | cons p r =>
        exfalso
        have := k2 (kT p.1) (by rw [ke]; exact List.mem_cons_self ..)
        obtain ⟨q, v⟩ := p
        cases q <;> cases this
    | non => cases k1
    | bl _ => cases k1
    | lst _ => simp [isKeyT, isTupT] at k1
    | dct _ _ => simp [isKeyT, isTupT] at k1
    | dcn _ _ => simp [isKeyT, isTupT] at k1
    | loc _ => simp [isKeyT, isTupT] at k1
    | pr _ => simp [isKeyT, isTupT] at k1
  | dicN h1 h2 h3 h4 h5 =>
    rename_i kvs
    right
    have tt : isTupT t = true := by
      cases kvs with
      | nil => exact absurd rfl h5
      | cons p r =>
        cases ks with
        | nil => simp at h4
        | cons c ks =>
          rw [← k2 c (List.mem_cons_self ..)]
          rw [List.map_cons, List.map_cons] at h4
          injection h4 with e1 e2
          cases h2 with
          | cons ra _ => exact tup_of_nkey ra e1
    obtain ⟨b, k, e1, e2, e3⟩ := tupc tt
    exact ⟨kvs, k, b, .inl h1, e1, e2, e3, h2, h3, h4⟩
theorem dic_get {a : Addr} {ks ts : List T} {y : V} {t : T} (r : ORep K g H a (.dic ks ts)) (ry : Rep K g H y t) (hk : keyOk ks t = true) : ∃ o, NGet K H a y o ∧ OptRep K g H o (dLook ks ts t) := by
  rcases dic_cases r ry hk with ⟨kvs, k, e1, rfl, rfl, rfl, e5⟩ | ⟨kvs, k, b, e1, rfl, e3, e4, e5, e6, e7⟩
  · exact ⟨_, .inl (DGet.k e1), look_k k e5⟩
  · exact ⟨_, .inr ⟨kvs, k, b, e1, rfl, rfl, e4, kok_all e5 e7⟩, look_n (nkey_ok e3).1 e6 e7⟩
theorem optRep_some {o : Option V} {x : Option T} (h : OptRep K g H o x) : o.isSome = x.isSome := by
  cases o <;> cases x <;> first | rfl | cases h
theorem repl_k {k : Key} {v : V} {x : T} (r : Rep K g H v x) : ∀ {kvs : List (Key × V)} {ts : List T}, RepL K g H (kvs.map (·.2)) ts → RepL K g H ((kvs.map fun p => if p.1 = k then (p.1, v) else p).map (·.2)) (dRepl (kvs.map fun p => kT p.1) ts (kT k) x)
  | [], _, h => by cases h; exact .nil
  | p :: kvs, _, h => by
    cases h with
    | cons a b =>
      show RepL K g H ((if p.1 = k then (p.1, v) else p).2 :: _) ((if nk0 (kT p.1) = nk0 (kT k) then x else _) :: _)
      by_cases e : p.1 = k
      · rw [if_pos e, if_pos (nk0_kT.mpr e)]
        exact .cons r (repl_k r b)
      · rw [if_neg e, if_neg (fun z => e (nk0_kT.mp z))]
        exact .cons a (repl_k r b)
theorem repl_keys {k : Key} {v : V} (kvs : List (Key × V)) : (kvs.map fun p => if p.1 = k then (p.1, v) else p).map (fun p => kV p.1) = kvs.map fun p => kV p.1 := by
  rw [List.map_map]
  refine List.map_congr_left fun p _ => ?_
  show kV (if p.1 = k then (p.1, v) else p).1 = _
  split <;> rfl
theorem repl_n {k : NestedKey} {t : T} (ht : nk0 t = some k) {v : V} {x : T} (r : Rep K g H v x) : ∀ {kvs : List (NestedKey × Addr × V)} {ks ts : List T}, RepL K g H (kvs.map (·.2.2)) ts → ks.map nkey = kvs.map (fun p => some p.1) →
    RepL K g H ((kvs.map fun p => if p.1 = k then (p.1, p.2.1, v) else p).map (·.2.2)) (dRepl ks ts t x)
  | [], ks, _, h, e => by
    cases h
    cases ks with
    | nil => exact .nil
    | cons _ _ => simp at e
  | p :: kvs, ks, _, h, e => by
    cases ks with
    | nil => simp at e
    | cons c ks =>
      rw [List.map_cons, List.map_cons] at e
      injection e with e1 e2
      have e1 := (nkey_ok e1).1
      cases h with
      | cons a b =>
        show RepL K g H ((if p.1 = k then (p.1, p.2.1, v) else p).2.2 :: _) ((if nk0 c = nk0 t then x else _) :: _)
        by_cases q : p.1 = k
        · rw [if_pos q, if_pos (by rw [e1, ht, q])]
          exact .cons r (repl_n ht r b e2)
        · rw [if_neg q, if_neg (fun z => q (by rw [e1, ht] at z; injection z))]
          exact .cons a (repl_n ht r b e2)
theorem repl_nkeys {k : NestedKey} {v : V} (kvs : List (NestedKey × Addr × V)) : (kvs.map fun p => if p.1 = k then (p.1, p.2.1, v) else p).map (fun p => V.ref p.2.1) = kvs.map fun p => V.ref p.2.1 := by
  rw [List.map_map]
  refine List.map_congr_left fun p _ => ?_
  show V.ref (if p.1 = k then (p.1, p.2.1, v) else p).2.1 = _
  split <;> rfl
theorem repl_nsome {k : NestedKey} {v : V} (kvs : List (NestedKey × Addr × V)) : (kvs.map fun p => if p.1 = k then (p.1, p.2.1, v) else p).map (fun p => some p.1) = kvs.map fun p => some p.1 := by
  rw [List.map_map]
  refine List.map_congr_left fun p _ => ?_
  show some (if p.1 = k then (p.1, p.2.1, v) else p).1 = _
  split <;> rfl
theorem dic_put {a : Addr} {ks ts : List T} {y v : V} {t x : T} (r : ORep K g H a (.dic ks ts)) (ry : Rep K g H y t) (rx : Rep K g H v x) (hk : keyOk ks t = true) (hl : ts.length < 16777216) :
    ∃ ho, NPut K H a y v (upd H a ho) ∧ Mut (some ho) ∧ (Step g H g (upd H a ho) → ORep K g (upd H a ho) a (.dic (dPutT ks ts t x).1 (dPutT ks ts t x).2)) := by
  have hl2 : ts.length < sizeLine := by rw [sizeLine_eq]; exact hl
  rcases dic_cases r ry hk with ⟨kvs, k, e1, rfl, rfl, rfl, e5⟩ | ⟨kvs, k, b, e1, rfl, e3, e4, e5, e6, e7⟩
  · have l := e5.length
    rw [List.length_map] at l
    refine ⟨_, .inl (DPut.k e1 (by rw [l]; exact hl2)), trivial, fun st => ?_⟩
    have z := optRep_some (look_k k e5)
    have pe : putK kvs k v = if (valV kvs k).isSome = true then kvs.map (fun p => if p.1 = k then (p.1, v) else p) else kvs ++ [(k, v)] := by
      unfold putK
      rw [valV_any]
    have he : upd H a (.dK (putK kvs k v)) a = some (.dK (putK kvs k v)) := upd_same
    have keys : RepL K g H (kvs.map fun p => kV p.1) (kvs.map fun p => kT p.1) := RepL.of (by rw [List.length_map, List.length_map]) fun j v t h1 h2 => by
      rw [List.getElem?_map] at h1 h2
      cases qj : kvs[j]? with
      | none => rw [qj] at h1; cases h1
      | some p =>
        rw [qj] at h1 h2
        cases h1
        cases h2
        obtain ⟨pk, pv⟩ := p
        cases pk
        · exact .int _
        · exact .str _
    generalize upd H a (.dK (putK kvs k v)) = H2 at st he ⊢
    rw [pe] at he
    unfold dPutT
    rw [← z]
    by_cases c : (valV kvs k).isSome = true
    · rw [if_pos c] at he ⊢
      refine .dic he ?_ ((repl_k rx e5).step st)
      rw [repl_keys]
      exact keys.step st
    · rw [if_neg c] at he ⊢
      refine .dic he ?_ ?_
      · rw [List.map_append]
        exact (keys.append (.cons ry .nil)).step st
      · rw [List.map_append]
        exact (e5.append (.cons rx .nil)).step st
  · have l := e6.length
    rw [List.length_map] at l
    refine ⟨_, .inr ⟨kvs, k, b, e1, rfl, e4, kok_all e5 e7, by rw [l]; exact hl2, rfl⟩, dN_mut, fun st => ?_⟩
    have ht := (nkey_ok e3).1
    have z := optRep_some (look_n ht e6 e7)
    have he : upd H a (dN K.P K.w a (nPut kvs k b v)) a = some (dN K.P K.w a (nPut kvs k b v)) := upd_same
    generalize upd H a (dN K.P K.w a (nPut kvs k b v)) = H2 at st he ⊢
    unfold nPut at he
    unfold dPutT
    rw [← z]
    by_cases c : (nAt kvs k).isSome = true
    · rw [if_pos c] at he ⊢
      refine .dicN he ?_ ((repl_n ht rx e6 e7).step st) ?_ ?_
      · rw [repl_nkeys]
        exact e5.step st
      · rw [repl_nsome]
        exact e7
      · intro q
        cases kvs with
        | nil => cases c
        | cons _ _ => cases q
    · rw [if_neg c] at he ⊢
      refine .dicN he ?_ ?_ ?_ (by simp)
      · rw [List.map_append]
        exact (e5.append (.cons ry .nil)).step st
      · rw [List.map_append]
        exact (e6.append (.cons rx .nil)).step st
      · rw [List.map_append, List.map_append, e7, List.map_cons, List.map_nil, e3]
        rfl
end
def S.dicAt (s : S) (p : Pl) : Option (List T × List T) := match s.at p with
  | some (.dic ks vs) => some (ks, vs)
  | _ => none
theorem dicAt_at {s : S} {p : Pl} {r : List T × List T} (h : s.dicAt p = some r) : s.at p = some (.dic r.1 r.2) := by
  unfold S.dicAt at h
  split at h
  · rename_i e; cases h; exact e
  · cases h
/-- p[k] -/
def fDGet (f : Ep) (h : Ev) : Ev := fun s => (f s).bind fun p s1 => (h s1).bind fun t s2 => match s2.dicAt p with
  | some d => if keyOk d.1 t = true then ofO (dLook d.1 d.2 t) s2 else .no
  | none => .no
/-- k in p, k not in p (n: true) -/
def fDIn (n : Bool) (h : Ev) (f : Ep) : Et := fun s => (h s).bind fun t s1 => (f s1).bind fun p s2 => match s2.dicAt p with
  | some d => if keyOk d.1 t = true then .ok (n ^^ (dLook d.1 d.2 t).isSome) s2 else .no
  | none => .no
/-- p[k] = v -/
def sDPutZ (f : Ep) (h : Ev) (v : Ev) : Sv := fun s => (v s).bind fun x s1 => (f s1).bind fun p s2 => (h s2).bind fun t s3 => match s3.dicAt p with
  | some d => if keyOk d.1 t = true ∧ d.2.length < 16777216 then .ok .nx (s3.put (.dic (dPutT d.1 d.2 t x).1 (dPutT d.1 d.2 t x).2) p) else .no
  | none => .no
section
variable {X : Cx} {o i value a c : Expr} {pos pos' : Pos} {fp : Ep} {h f : Ev}
theorem fe_dget (hu : X.A.units + 12 < cLine) (ho : FP X o fp) (hi : FE X i h) (hs : NoSl i := by first | exact (fun _ _ => rfl)) : FE X (.Subscript o i pos) (fDGet fp h) := by
  refine ⟨fun pins s0 σ H Q I ⟨b, g, s, v, s', m, e, k⟩ => ?_⟩
  obtain ⟨p, s1, e1, e⟩ := bind_ok e
  obtain ⟨t, s2, e2, e⟩ := bind_ok e
  split at e
  · rename_i d hd
    split at e
    · rename_i hk
      obtain ⟨el, rfl⟩ := ofO_ok e
      refine subD_of PySem.F.slot_dict_getitem.lookup hs (thn (ho.run pins s0 σ H (fun x H1 => ∃ g1 a, x = .ref a ∧ Sim X.kx b g1 s1 σ H1 ∧ Step g H g1 H1 ∧ PAddr g1 p a) I ⟨b, g, s, p, s1, m, e1, fun g1 H1 a m1 t1 pa => ⟨g1, a, rfl, m1, t1, pa⟩⟩) fun u s3 ⟨x, H1, I1, rx, g1, a, ex, m1, t1, pa⟩ =>
        thn (hi.run pins s3 σ H1 (fun y H2 => ∃ g2, Sim X.kx b g2 s' σ H2 ∧ Step g1 H1 g2 H2 ∧ Rep X.kx g2 H2 y t) I1 ⟨b, g1, s1, t, _, m1, e2, fun g2 H2 y m2 t2 r2 => ⟨g2, m2, t2, r2⟩⟩) fun iv s4 ⟨y, H2, I2, ry, g2, m2, t2, r2⟩ => ?_)
      subst ex
      obtain rfl : u = Value.ref a := rx
      obtain ⟨ov, dg, orp⟩ := dic_get (m2.at (pa.step t2) (dicAt_at hd)).1 r2 hk
      rw [el] at orp
      cases ov with
      | none => cases orp
      | some w => exact ⟨n_isDict I2 dg, n_getItem hu I2 dg ry fun w' s5 I3 rw' => ⟨w, H2, I3, rw', k g2 H2 w m2 (t1.trans t2) orp⟩⟩
    · cases e
  · cases e
theorem pc_dninZ (hu : X.A.units + 12 < cLine) (hi : FE X i h) (ho : FP X o fp) : PC X .NotIn i o (fun σ H Q => rdT X.kx (fDIn true h fp) σ H fun c H' => Q (.bl c) H') := by
  refine ⟨fun pins s0 σ H Q I ⟨b, g, s, v, s', m, e, k⟩ => ?_⟩
  obtain ⟨t, s1, e1, e⟩ := bind_ok e
  obtain ⟨p, s2, e2, e⟩ := bind_ok e
  split at e
  · rename_i d hd
    split at e
    · rename_i hk
      cases e
      refine thn (hi.run pins s0 σ H (fun y H1 => ∃ g1, Sim X.kx b g1 s1 σ H1 ∧ Step g H g1 H1 ∧ Rep X.kx g1 H1 y t) I ⟨b, g, s, t, s1, m, e1, fun g1 H1 y m1 t1 r1 => ⟨g1, m1, t1, r1⟩⟩) fun iv s3 ⟨y, H1, I1, ry, g1, m1, t1, r1⟩ =>
        thn (ho.run pins s3 σ H1 (fun x H2 => ∃ g2 a, x = .ref a ∧ Sim X.kx b g2 s' σ H2 ∧ Step g1 H1 g2 H2 ∧ PAddr g2 p a) I1 ⟨b, g1, s1, p, _, m1, e2, fun g2 H2 a m2 t2 pa => ⟨g2, a, rfl, m2, t2, pa⟩⟩) fun u s4 ⟨x, H2, I2, rx, g2, a, ex, m2, t2, pa⟩ => ?_
      subst ex
      obtain rfl : u = Value.ref a := rx
      obtain ⟨ov, dg, orp⟩ := dic_get (m2.at pa (dicAt_at hd)).1 (r1.step t2) hk
      refine n_notIn hu I2 dg ry fun s5 I3 => ⟨.bl (!ov.isSome), H2, I3, rfl, ?_⟩
      rw [optRep_some orp]
      have := k g2 H2 m2 (t1.trans t2)
      rw [Bool.true_xor] at this
      exact this
    · cases e
  · cases e
theorem tBb_of {K : Kx} {f : Et} {σ : St} {H : Hp} {Q : Bool → Hp → Prop} (q : rdT K f σ H Q) : tB (fun σ H Q => rdT K f σ H fun c H' => Q (.bl c) H') σ H Q := by
  obtain ⟨b, g, s, c, s', m, e, k⟩ := q
  exact ⟨b, g, s, c, s', m, e, fun g' H' m' t' => ⟨c, rfl, k g' H' m' t'⟩⟩
theorem ft_dnin (hu : X.A.units + 12 < cLine) (hi : FE X i h) (ho : FP X o fp) (hm : behindInMarks .NotIn o = false := by first | exact nobehind _ (by decide) (by decide) | rfl) : FT X (.Compare i [.NotIn] [o] pos) (fDIn true h fp) := pt_mono (pt_cmp (pc_dninZ hu hi ho) hm) fun _ _ _ => tBb_of
theorem fs_dput (hu : X.A.units + 12 < cLine) (ho : FP X o fp) (hi : FE X i h) (hv : FE X value f) (hs : swapsWith value (some (.Subscript o i pos')) pos.line X.env = pure false := by rfl) : FS X (.Assign [.Subscript o i pos'] value pos) (sDPutZ fp h f) := by
  refine ⟨fun pins s0 σ H D I ⟨b, g, s, fl, s', m, e, k⟩ => ?_⟩
  obtain ⟨x, s1, e1, e⟩ := bind_ok e
  obtain ⟨p, s2, e2, e⟩ := bind_ok e
  obtain ⟨t, s3, e3, e⟩ := bind_ok e
  split at e
  · rename_i d hd
    split at e
    · rename_i hk
      cases e
      refine wpAny_Assign_Subscript (thn (hv.run pins s0 σ H (fun v H1 => ∃ g1, Sim X.kx b g1 s1 σ H1 ∧ Step g H g1 H1 ∧ Rep X.kx g1 H1 v x) I ⟨b, g, s, x, s1, m, e1, fun g1 H1 v m1 t1 r1 => ⟨g1, m1, t1, r1⟩⟩) fun rv s4 ⟨v, H1, I1, rx, g1, m1, t1, r1⟩ =>
        thn (ho.run pins s4 σ H1 (fun z H2 => ∃ g2 a, z = .ref a ∧ Sim X.kx b g2 s2 σ H2 ∧ Step g1 H1 g2 H2 ∧ PAddr g2 p a) I1 ⟨b, g1, s1, p, s2, m1, e2, fun g2 H2 a m2 t2 pa => ⟨g2, a, rfl, m2, t2, pa⟩⟩) fun u s5 ⟨z, H2, I2, rz, g2, a, ez, m2, t2, pa⟩ =>
        thn (hi.run pins s5 σ H2 (fun y H3 => ∃ g3, Sim X.kx b g3 s3 σ H3 ∧ Step g2 H2 g3 H3 ∧ Rep X.kx g3 H3 y t) I2 ⟨b, g2, s2, t, s3, m2, e3, fun g3 H3 y m3 t3 r3 => ⟨g3, m3, t3, r3⟩⟩) fun iv s6 ⟨y, H3, I3, ry, g3, m3, t3, r3⟩ => ?_) hs
      subst ez
      obtain rfl : u = Value.ref a := rz
      obtain ⟨ho, np, mu, orp⟩ := dic_put (m3.at (pa.step t3) (dicAt_at hd)).1 r3 (r1.step (t2.trans t3)) hk.1 hk.2
      obtain ⟨m4, t4⟩ := m3.setAt (o' := .dic (dPutT d.1 d.2 t x).1 (dPutT d.1 d.2 t x).2) (pa.step t3) (dicAt_at hd) mu rfl orp
      exact n_setItem hu I3 np ry rx fun s7 I4 => ⟨σ, _, I4, k g3 σ _ m4 (t1.trans (t2.trans (t3.trans t4)))⟩
    · cases e
  · cases e
end
end L2.Z
set_option Elab.async false
set_option linter.all false
set_option maxRecDepth 100000
set_option maxHeartbeats 2000000
namespace L2.Z
open PySem PySem.Spec PyProof.Rows
abbrev Eps := S → R (List (T × T))
def pNil : Eps := fun s => .ok [] s
def pCons (f h : Ev) (r : Eps) : Eps := fun s => (f s).bind fun k s1 => (h s1).bind fun v s2 => (r s2).bind fun ps s3 => .ok ((k, v) :: ps) s3
/-- the keys are texts and ints, no two alike -/
def keysOk : List T → Bool
  | [] => true
  | k :: ks => (match k with | .int _ => true | .str _ => true | _ => false) && ks.all (fun c => decide (nk0 c ≠ nk0 k)) && keysOk ks
def nDicP (f : Eps) : En := fun s => (f s).bind fun ps s1 => if keysOk (ps.map (·.1)) = true ∧ ps.length ≤ 15 then .ok (.new (.dic (ps.map (·.1)) (ps.map (·.2)))) s1 else .no
/-- {k: v}, k a tuple -/
def nDicT (f h : Ev) : En := fun s => (f s).bind fun k s1 => (h s1).bind fun v s2 => if isTupT k = true ∧ (nkey k).isSome = true then .ok (.new (.dic [k] [v])) s2 else .no
section
variable {K : Kx} {g : G} {H : Hp}
def RepP (K : Kx) (g : G) (H : Hp) (vs : List (V × V)) (ts : List (T × T)) : Prop := RepL K g H (vs.map (·.1)) (ts.map (·.1)) ∧ RepL K g H (vs.map (·.2)) (ts.map (·.2))
def rdPs (K : Kx) (f : Eps) : St → Hp → (List (V × V) → Hp → Prop) → Prop := fun σ H Q => ∃ b g s ts s', Sim K b g s σ H ∧ f s = .ok ts s' ∧ ∀ g' H' Vs, Sim K b g' s' σ H' → Step g H g' H' → RepP K g' H' Vs ts → Q Vs H'
/-- trees for keys -/
theorem keys_of : ∀ {vs : List V} {ts : List T}, RepL K g H vs ts → keysOk ts = true → ∃ ks : List Key, vs = ks.map kV ∧ ts = ks.map kT ∧ (ks.Nodup)
  | _, _, .nil, _ => ⟨[], rfl, rfl, List.nodup_nil⟩
  | v :: _, _, .cons (t := t) (ts := ts) a b, h => by
    unfold keysOk at h
    simp only [Bool.and_eq_true] at h
    obtain ⟨⟨h1, h2⟩, h3⟩ := h
    obtain ⟨ks, e1, e2, e3⟩ := keys_of b h3
    have key : ∃ k, t = kT k := by
      cases t with
      | int i => exact ⟨.inl i, rfl⟩
      | str i => exact ⟨.inr i, rfl⟩
      | _ => cases h1
    obtain ⟨k, rfl⟩ := key
    have hv : v = kV k := by
      cases k with
      | inl i => exact rep_int a
      | inr i => exact rep_str a
    refine ⟨k :: ks, by rw [hv, e1]; rfl, by rw [e2]; rfl, List.nodup_cons.mpr ⟨fun q => ?_, e3⟩⟩
    rw [List.all_eq_true] at h2
    have := h2 (kT k) (by rw [e2]; exact List.mem_map_of_mem q)
    simp at this
theorem merge_new : ∀ (kvs acc : List (Key × V)), (kvs.map (·.1)).Nodup → (∀ p ∈ kvs, ∀ q ∈ acc, p.1 ≠ q.1) → mergeK acc kvs = acc ++ kvs
  | [], acc, _, _ => by simp [mergeK]
  | p :: kvs, acc, hn, ha => by
    have e : putK acc p.1 p.2 = acc ++ [p] := by
      unfold putK
      rw [if_neg]
      rw [List.any_eq_true]
      rintro ⟨q, hq, e⟩
      exact ha p (List.mem_cons_self ..) q hq (by simpa using (of_decide_eq_true e).symm)
    show mergeK (putK acc p.1 p.2) kvs = _
    rw [List.map_cons, List.nodup_cons] at hn
    rw [e, merge_new kvs (acc ++ [p]) hn.2, List.append_assoc]
    · rfl
    · intro c hc q hq
      rcases List.mem_append.mp hq with hq | hq
      · exact ha c (List.mem_cons_of_mem _ hc) q hq
      · rw [List.mem_singleton] at hq
        subst hq
        intro z
        exact hn.1 (z ▸ List.mem_map_of_mem hc)
end
theorem zip_back : ∀ (ks : List Key) (vs : List (V × V)), vs.map (·.1) = ks.map kV → vs = (ks.zip (vs.map (·.2))).map (fun kv => (kV kv.1, kv.2))
  | [], [], _ => rfl
  | [], _ :: _, h => by simp at h
  | _ :: _, [], h => by simp at h
  | k :: ks, p :: vs, h => by
    rw [List.map_cons, List.map_cons] at h
    injection h with h1 h2
    rw [List.map_cons, List.zip_cons_cons, List.map_cons, ← zip_back ks vs h2, ← h1]
/-- pairs of a display, as plain functions -/
structure FPs (X : Cx) (pos : Pos) (keys : List (Option Expr)) (values : List Expr) (f : Eps) : Prop where
  run : ∀ (pins : List (Addr × Obj)) (s : Shared) (σ : St) (H : Hp) (Q : List (V × V) → Hp → Prop), Inv X pins σ H s → rdPs X.kx f σ H Q →
    wpAny (model X.prog X.w) X.A (evalPairs (pairTrees keys values X.env pos)) (fun vs s' => ∃ ps H', Inv X pins σ H' s' ∧ VV ps vs ∧ Q ps H') X.xe s
section
variable {X : Cx} {pos : Pos} {k v : Expr} {ks : List (Option Expr)} {vs : List Expr} {f h : Ev} {fp : Eps}
theorem fps_nil : FPs X pos [] [] pNil := ⟨fun pins s0 σ H Q I ⟨b, g, s, ts, s', m, e, q⟩ => by
  cases e
  exact pairTrees_nil_walk ⟨[], H, I, .nil, q g H [] m Step.refl ⟨.nil, .nil⟩⟩⟩
theorem fps_cons (hk : FE X k f) (hv : FE X v h) (hr : FPs X pos ks vs fp) : FPs X pos (some k :: ks) (v :: vs) (pCons f h fp) := ⟨fun pins s0 σ H Q I ⟨b, g, s, ts, s', m, e, q⟩ => by
  obtain ⟨t1, s1, e1, e⟩ := bind_ok e
  obtain ⟨t2, s2, e2, e⟩ := bind_ok e
  obtain ⟨ps, s3, e3, e⟩ := bind_ok e
  cases e
  exact pairTrees_cons_walk (thn (hk.run pins s0 σ H (fun x H1 => ∃ g1, Sim X.kx b g1 s1 σ H1 ∧ Step g H g1 H1 ∧ Rep X.kx g1 H1 x t1) I ⟨b, g, s, t1, s1, m, e1, fun g1 H1 x m1 st1 r1 => ⟨g1, m1, st1, r1⟩⟩) fun u s4 ⟨x, H1, I1, rx, g1, m1, st1, r1⟩ =>
    thn (hv.run pins s4 σ H1 (fun y H2 => ∃ g2, Sim X.kx b g2 s2 σ H2 ∧ Step g1 H1 g2 H2 ∧ Rep X.kx g2 H2 y t2) I1 ⟨b, g1, s1, t2, s2, m1, e2, fun g2 H2 y m2 st2 r2 => ⟨g2, m2, st2, r2⟩⟩) fun w2 s5 ⟨y, H2, I2, ry, g2, m2, st2, r2⟩ =>
    thn (hr.run pins s5 σ H2 (fun Vs H3 => ∃ g3, Sim X.kx b g3 s' σ H3 ∧ Step g2 H2 g3 H3 ∧ RepP X.kx g3 H3 Vs ps) I2 ⟨b, g2, s2, ps, _, m2, e3, fun g3 H3 Vs m3 st3 r3 => ⟨g3, m3, st3, r3⟩⟩) fun ws s6 ⟨Vs, H3, I3, rel, g3, m3, st3, r3⟩ =>
      ⟨(x, y) :: Vs, H3, I3, .cons ⟨rx, ry⟩ rel, q g3 H3 _ m3 (st1.trans (st2.trans st3)) ⟨.cons (r1.step (st2.trans st3)) r3.1, .cons (r2.step st3) r3.2⟩⟩)⟩
theorem fn_dicP (hp : FPs X pos ks vs fp) (hall : ks.all (·.isSome) = true := by rfl) (hl : ks.length = vs.length := by rfl) (h0 : ks ≠ [] := by simp) (h15 : ks.length ≤ 15 := by decide) : FN X (.Dict ks vs pos) (nDicP fp) := by
  refine ⟨fun pins s0 σ H Q I ⟨b, g, s, n, s', m, e, q⟩ => ?_⟩
  obtain ⟨ps, s1, e1, e⟩ := bind_ok e
  split at e
  · rename_i c
    cases e
    have hn := I.hok.fresh (Nat.le_refl s0.heap.objs.size)
    have I1 := I.laid (a := s0.heap.objs.size) (o := .dK []) (h' := s0.heap.push { cls := .type "dict", data := .dict #[] }) (t' := s0.toks) (fun _ _ q => Heap.get?_push_of_some _ q) (Nat.le_refl _) (dk_empty s0.heap I.big)
    have hb := m.hidn' hn
    have m0 := m.hide (ho := .dK []) hn trivial
    refine wpAny_Dict_walk (knd := mixKind X.prog X.w) hall hl h0 h15 (thn (hp.run pins _ σ _ (fun Vs H1 => ∃ g1, Sim X.kx (b.hide s0.heap.objs.size (.dK [])) g1 s' σ H1 ∧ Step _ _ g1 H1 ∧ RepP X.kx g1 H1 Vs ps) I1 ⟨_, _, s, ps, _, m0, e1, fun g1 H1 Vs m1 st1 r1 => ⟨g1, m1, st1, r1⟩⟩) fun ws s2 ⟨Vs, H2, I2, rel, g2, m2, st2, r2⟩ => ?_)
    obtain ⟨kk, k1, k2, k3⟩ := keys_of r2.1 c.1
    have hz : H2 s0.heap.objs.size = some (.dK []) := (m2.hidn (_, .dK []) (List.mem_cons_self ..)).1
    have lv : kk.length = Vs.length := by have := congrArg List.length k1; simpa using this.symm
    have eV : Vs = (kk.zip (Vs.map (·.2))).map (fun kv => (kV kv.1, kv.2)) := zip_back kk Vs k1
    have mapk : (kk.zip (Vs.map (·.2))).map (·.1) = kk := List.map_fst_zip (by simp [lv])
    have mapv : (kk.zip (Vs.map (·.2))).map (·.2) = Vs.map (·.2) := List.map_snd_zip (by simp [lv])
    generalize kk.zip (Vs.map (·.2)) = kvs at eV mapk mapv
    obtain ⟨rs, ca, rk⟩ := carries_of (P := X.prog) (w := X.w) (kvs := kvs) (ws := ws) (by rw [← eV]; exact rel)
    obtain ⟨z, hd, vs0, r0, dd⟩ := dk_of I2.hok hz
    cases r0
    have mg : mergeK [] kvs = kvs := merge_new kvs [] (by rw [mapk]; exact k3) (fun p _ q hq => by cases hq)
    obtain ⟨m3, t3⟩ := m2.grow (ho' := .dK kvs) trivial hb
    refine ⟨rs, ca, dd, fun h' dd' hs => ⟨.ref s0.heap.objs.size, upd H2 s0.heap.objs.size (.dK kvs), ?_, rfl, q g2 _ _ _ m3 ((step_new hn).trans (st2.trans t3)) ⟨.dic upd_same ?_ ?_, rfl⟩ hb⟩⟩
    · have lk : kvs.length ≤ sizeLine := by
        have e1 : kvs.length = Vs.length := by have := congrArg List.length mapv; simpa using this
        have e2 := r2.1.length
        rw [List.length_map, List.length_map] at e2
        rw [sizeLine_eq, e1, e2]
        have := c.2
        omega
      have he : ∃ q, h'.get? s0.heap.objs.size = some q := let ⟨q, _, _, hq, _⟩ := dd'; ⟨q, hq⟩
      exact d_write I2 (by rw [hz]; exact True.intro) hs he (dk_new lk hd (by have := rk.merge .nil; rw [mg] at this; exact this) dd')
    · have : kvs.map (fun p => kV p.1) = Vs.map (·.1) := by rw [k1, ← mapk, List.map_map]; rfl
      rw [this]
      exact r2.1.step t3
    · rw [mapv]
      exact r2.2.step t3
  · cases e
/-- {k: v}, k a tuple -/
theorem fn_dicT (hu : X.A.units + 12 < cLine) (hk : FE X k f) (hv : FE X v h) : FN X (.Dict [some k] [v] pos) (nDicT f h) := by
  refine ⟨fun pins s0 σ H Q I ⟨b, g, s, n, s', m, e, q⟩ => ?_⟩
  obtain ⟨t1, s1, e1, e⟩ := bind_ok e
  obtain ⟨t2, s2, e2, e⟩ := bind_ok e
  split at e
  · rename_i c
    cases e
    have hn := I.hok.fresh (Nat.le_refl s0.heap.objs.size)
    have I1 := I.laid (a := s0.heap.objs.size) (o := .dK []) (h' := s0.heap.push { cls := .type "dict", data := .dict #[] }) (t' := s0.toks) (fun _ _ q => Heap.get?_push_of_some _ q) (Nat.le_refl _) (dk_empty s0.heap I.big)
    have hb := m.hidn' hn
    have m0 := m.hide (ho := .dK []) hn trivial
    rw [arm_eval_Dict, zip_pairTrees [some k] [v] X.env pos rfl rfl, dictDisplay_pairs _ (by simp [pairTrees]) (by simp [pairTrees])]
    refine wpAny_bind (wpAny_standAt (wpAny_bind (wpAny_subDictH (knd := nestedKind X.prog X.w) (Q := fun d s' => wpAny (model X.prog X.w) X.A (pure (Value.ref d)) (EP X pins σ Q) X.xe s') (by show X.A.units + 8 < cLine; omega) (by simp [pairTrees]) ?_)))
    refine pairTrees_cons_walk (thn (hk.run pins _ σ _ (fun x H1 => ∃ g1, Sim X.kx (b.hide s0.heap.objs.size (.dK [])) g1 s1 σ H1 ∧ Step _ _ g1 H1 ∧ Rep X.kx g1 H1 x t1) I1 ⟨_, _, s, t1, s1, m0, e1, fun g1 H1 x m1 st1 r1 => ⟨g1, m1, st1, r1⟩⟩) fun u s4 ⟨x, H1, J1, rx, g1, m1, st1, r1⟩ =>
      thn (hv.run pins s4 σ H1 (fun y H2 => ∃ g2, Sim X.kx (b.hide s0.heap.objs.size (.dK [])) g2 s' σ H2 ∧ Step g1 H1 g2 H2 ∧ Rep X.kx g2 H2 y t2) J1 ⟨_, g1, s1, t2, _, m1, e2, fun g2 H2 y m2 st2 r2 => ⟨g2, m2, st2, r2⟩⟩) fun w2 s5 ⟨y, H2, I2, ry, g2, m2, st2, r2⟩ => pairTrees_nil_walk ?_)
    have r1' := r1.step st2
    cases t1 with
    | tup us =>
      obtain ⟨a, us', rfl, _, _⟩ := rep_tup r1'
      obtain rfl : u = Value.ref a := rx
      obtain ⟨kk, hkk⟩ := Option.isSome_iff_exists.mp c.2
      have ko : KOk X.kx H2 a kk := ⟨g2, _, r1', hkk⟩
      have hz : H2 s0.heap.objs.size = some (.dK []) := (m2.hidn (_, .dK []) (List.mem_cons_self ..)).1
      obtain ⟨_, hd, xs, p2, dd⟩ := dn_at (kvs := []) I2 (.inr ⟨rfl, hz⟩) (fun p hp => by cases hp)
      cases p2
      obtain ⟨m3, t3⟩ := m2.grow (ho' := dN X.prog X.w s0.heap.objs.size [(kk, a, y)]) dN_mut hb
      refine ⟨[(kk, a, w2)], ⟨rfl, rfl, ko.is I2, trivial⟩, dd, fun h' tk dd' hs => wpAny_pure ⟨.ref s0.heap.objs.size, _, ?_, rfl, q g2 _ _ _ m3 ((step_new hn).trans (st1.trans (st2.trans t3))) ⟨.dicN upd_same (.cons (r1'.step t3) .nil) (.cons (r2.step t3) .nil) (by rw [List.map_cons, List.map_nil, List.map_cons, List.map_nil, hkk]) (by simp), rfl⟩ hb⟩⟩
      obtain ⟨q, es, ep, hq, h2, h3, h4, _, h5⟩ := dd'
      have P : P2 [(kk, a, y)] (storedAllH [] [(kk, a, w2)]) := Paired.cons ⟨rfl, rfl, ry⟩ .nil
      exact d_write (t' := tk) I2 (by rw [hz]; exact True.intro) hs ⟨q, hq⟩ ⟨⟨by rw [sizeLine_eq]; show 1 ≤ _; omega, hd, _, P, q, es, ep, hq, h2, h3, h4, h5⟩, ⟨q, hq⟩, fun h1 h2' ⟨l, n, xs, p, o, es, ep, e1, er⟩ kk => ⟨l, n, xs, p, o, es, ep, kk _ e1, er⟩⟩
    | _ => cases c.1
  · cases e
end
/-- a new thing is laid into the store -/
def fLoc (f : En) : Ev := fun s => (f s).bind fun n s1 => match n with
  | .new o => .ok (.loc s1.st.length) { s1 with st := s1.st ++ [o] }
  | .val t => .ok t s1
section
variable {X : Cx} {e : Expr} {fn : En}
theorem fe_loc (h : FN X e fn) : FE X e (fLoc fn) := pe_mono h fun σ H Q ⟨b, g, s, v, s', m, e, k⟩ => by
  obtain ⟨n, s1, e1, e⟩ := bind_ok e
  refine ⟨b, g, s, n, s1, m, e1, ?_⟩
  cases n with
  | val t => cases e; exact k
  | new o =>
    cases e
    intro g' H' p ho m' t' r' hb
    obtain ⟨g2, m2, t2, r2⟩ := m'.showLoc hb r'
    exact k g2 H' _ m2 (t'.trans t2) r2
end
end L2.Z
set_option Elab.async false
set_option linter.all false
set_option maxRecDepth 100000
set_option maxHeartbeats 2000000
namespace L2.Z
open PySem PySem.Spec PyProof.Rows
section
variable {X : Cx} {pos apos cpos p : Pos} {o i a c e : Expr} {es : List Expr} {fp : Ep} {f h : Ev} {fa fb : Ea} {k : Bool}
theorem tyV_sq {K : Kx} {H : Hp} {a : Addr} {vs : List V} (h : SqL K.K H a vs) : tyV K.K "list" (.ref a) H := .inl ⟨rfl, vs, h⟩
/-- list.count of plain things -/
def rCnt (K : Kx) : V → List V → Hp → VK → Prop := fun x xs H Q => ∃ a y vs ts t, x = .ref a ∧ xs = [y] ∧ SqL K.K H a vs ∧ RepL K G.nil H vs ts ∧ Rep K G.nil H y t ∧ okT (.lst ts) = true ∧ okT t = true ∧ min (toD (.lst ts)).depth (toD t).depth ≤ 100 ∧ Q (.int ((ts.countP fun y => PyData.eqv (toD y) (toD t) : Nat) : Int)) H
theorem reads_all {pins : List (Addr × Obj)} {σ : St} {H : Hp} {s : Shared} {g : G} {vs : List V} {ts : List T} {a : Addr} (I : Inv X pins σ H s) (h1 : SqL X.K H a vs) (h2 : RepL X.kx g H vs ts) (hk : okT (.lst ts) = true) : ∃ its as, s.heap.IsList a its ∧ Vals vs its.toList ∧ ReadsAll s.heap its.toList (toDs ts) as ∧ its.size = vs.length ∧ vs.length ≤ sizeLine := by
  obtain ⟨its, rv, pl, z⟩ := I.list h1
  obtain ⟨as, ra⟩ := Dp.readsAll I _ _ _ (repL_dp h2 (by simpa [okT, toD, PyData.plain] using hk)) rv
  exact ⟨its.toArray, as, pl.isList, by simpa using rv, by simpa using ra, by simp [rv.length], z⟩
theorem mt_cnt (hu : X.A.units + 103 < cLine) : MtR X "list.count" (rCnt X.kx) := by
  intro pins s σ H x xs v us Q I rx rs ⟨a, y, vs, ts, t, e1, e2, h1, h2, h3, k1, k2, k3, q⟩
  subst e1 e2
  obtain rfl : v = Value.ref a := rx
  obtain ⟨u, rfl, ru⟩ := rs.one
  obtain ⟨its, as, il, rv, ra, _, _⟩ := reads_all I h1 h2 k1
  obtain ⟨bs, rb⟩ := rep_reads I h3 ru k2
  have k3 : min (PyData.list (toDs ts)).depth (toD t).depth ≤ 100 := k3
  rw [PyData.depth] at k3
  refine SeqAt.count_list_data il ra rb (by simpa [okT, toD, PyData.plain] using k1) k2 (by omega) ⟨.int _, H, I.tok _, ⟨_, rfl⟩, ?_⟩
  have : ((toDs ts).countP fun y => PyData.eqv y (toD t)) = ts.countP fun y => PyData.eqv (toD y) (toD t) := by
    rw [toDs_map, List.countP_map]; rfl
  rw [this]
  exact q
/-- l.count(e), l a value -/
def fCntL (f h : Ev) : Ev := fun s => (f s).bind fun l s1 => (h s1).bind fun t s2 => match l with
  | .lst ts => if pures ts = true ∧ t.pure = true ∧ okT (.lst ts) = true ∧ okT t = true ∧ min (toD (.lst ts)).depth (toD t).depth ≤ 100 then .ok (.int ((ts.countP fun y => PyData.eqv (toD y) (toD t) : Nat) : Int)) s2 else .no
  | _ => .no
theorem fe_cntL (hu : X.A.units + 103 < cLine) (ho : FE X o f) (ha : FE X e h) (hbase : attributeBase o "count" X.env (eval o X.env) = eval o X.env := by rfl)
    (hfew : ((backTo cpos (starEach (e :: []) X.env)).all (fun x => !x.1) && (backToKw cpos (keywordEach [] X.env)).all (fun x => x.1.isSome)
      && decide ((e :: ([] : List Expr)).length + ([] : List Keyword).length + (if ([] : List Keyword).isEmpty then 0 else 1) < 30)) = true := by rfl)
    (hline : (apos.endLine == cpos.line) = true := by rfl) (hs : starEach (e :: []) X.env = (false, eval e X.env) :: starEach [] X.env := by rfl) (hplain : (backTo cpos (starEach [] X.env)).any (·.1) = false := by rfl) :
    FE X (.Call (.Attribute o "count" apos) [e] [] cpos) (fCntL f h) := pe_mono (pe_bm PySem.F.plainAttrs_list PySem.F.slot_list_count PySem.F.type_list_count (mt_cnt hu) ho (pa_cons ha pa_nil hs) hbase hfew hline hs hplain) fun σ H Q ⟨b, g, s, v, s', m, ev, k⟩ => by
  obtain ⟨l, s1, e1, ev⟩ := bind_ok ev
  obtain ⟨t, s2, e2, ev⟩ := bind_ok ev
  cases l with
  | lst ts =>
    have ev : (if pures ts = true ∧ t.pure = true ∧ okT (.lst ts) = true ∧ okT t = true ∧ min (toD (.lst ts)).depth (toD t).depth ≤ 100 then R.ok (.int ((ts.countP fun y => PyData.eqv (toD y) (toD t) : Nat) : Int)) s2 else .no) = .ok v s' := ev
    split at ev
    · rename_i c
      cases ev
      refine ⟨b, g, s, _, s1, m, e1, fun g1 H1 L m1 t1 r1 => ?_⟩
      obtain ⟨a, vs, rfl, h1, h2⟩ := rep_lst r1
      refine ⟨tyV_sq (K := X.kx) h1, b, g1, s1, t, _, m1, e2, fun g2 H2 V m2 t2 r2 => ?_⟩
      obtain ⟨a', vs', ea, h1', h2'⟩ := rep_lst (r1.step t2)
      cases ea
      exact ⟨a, V, vs', ts, t, rfl, rfl, h1', RepL.pnil c.1 h2', Rep.nil c.2.1 r2, c.2.2.1, c.2.2.2.1, c.2.2.2.2, k g2 H2 _ m2 (t1.trans t2) (.int _)⟩
    · cases ev
  | _ => cases ev
/-- the place of a plain thing -/
def atD (ts : List T) (t : T) : Option Nat := SeqAt.dataPlace (toDs ts) (toD t)
def muRem (ts xs : List T) : Option (List T × T) := match xs with
  | [x] => if pures ts = true ∧ x.pure = true ∧ okT (.lst ts) = true ∧ okT x = true ∧ min (toD (.lst ts)).depth (toD x).depth ≤ 100 then (atD ts x).map fun j => (ts.eraseIdx j, .non) else none
  | _ => none
def rRem (K : Kx) : V → List V → Hp → VK → Prop := fun x xs H Q => ∃ a y vs ts t j, x = .ref a ∧ xs = [y] ∧ H a = some (.lst vs) ∧ RepL K G.nil H vs ts ∧ Rep K G.nil H y t ∧ okT (.lst ts) = true ∧ okT t = true ∧ min (toD (.lst ts)).depth (toD t).depth ≤ 100 ∧ atD ts t = some j ∧ Q .non (upd H a (.lst (vs.eraseIdx j)))
theorem mt_rem (hu : X.A.units + 103 < cLine) : MtR X "list.remove" (rRem X.kx) := by
  intro pins s σ H x xs v us Q I rx rs ⟨a, y, vs, ts, t, j, e1, e2, h1, h2, h3, k1, k2, k3, hj, q⟩
  subst e1 e2
  obtain rfl : v = Value.ref a := rx
  obtain ⟨u, rfl, ru⟩ := rs.one
  obtain ⟨z, its, n, rv, hl, he⟩ := I.lstM h1
  obtain ⟨as, ra⟩ := Dp.readsAll I _ _ _ (repL_dp h2 (by simpa [okT, toD, PyData.plain] using k1)) rv
  obtain ⟨bs, rb⟩ := rep_reads I h3 ru k2
  have k3 : min (PyData.list (toDs ts)).depth (toD t).depth ≤ 100 := k3
  rw [PyData.depth] at k3
  refine SeqAt.remove_list_data (vs := its.toArray) ⟨_, he, rfl, n, rfl⟩ (by simpa using ra) rb (by simpa [okT, toD, PyData.plain] using k1) k2 (by omega) hj (by rw [List.size_toArray, ← hl]; exact z) ?_
  have hjl : j < its.toArray.size := by
    obtain ⟨h, _⟩ := SeqAt.hit_at (vs := its.toArray) (by simpa using ra) (by simpa [okT, toD, PyData.plain] using k1) hj
    exact h
  refine ⟨.non, _, I.lset (t' := s.toks) (its' := its.eraseIdx j) h1 he ?_ (rv.eraseIdx j) (Nat.le_trans (len_erase vs j) z), rfl, q⟩
  rw [← Array.toList_inj]
  simp [Array.eraseIdxIfInBounds, dif_pos hjl]
  rw [if_pos (by simpa using hjl)]
theorem mr_rem {K : Kx} : MutR K muRem (rRem K) := by
  intro g H a vs xs ts us ts' t Q h1 h2 h3 ho k
  unfold muRem at ho
  split at ho
  · rename_i x
    split at ho
    · rename_i c
      cases hj : atD ts x with
      | none => rw [hj] at ho; cases ho
      | some j =>
        rw [hj] at ho
        cases ho
        obtain ⟨v, rfl, r⟩ := repL_one h3
        exact ⟨a, v, vs, ts, x, j, rfl, rfl, h1, RepL.pnil c.1 h2, Rep.nil c.2.1 r, c.2.2.1, c.2.2.2.1, c.2.2.2.2, hj, k _ _ (h2.eraseIdx j) .non⟩
    · cases ho
  · cases ho
end
end L2.Z
set_option Elab.async false
set_option linter.all false
set_option maxRecDepth 100000
set_option maxHeartbeats 2000000
namespace L2.Z
open PySem PySem.Spec PyProof.Rows
def B.hides (b : B) : List (Addr × HO) → B
  | [] => b
  | x :: hs => (b.hide x.1 x.2).hides hs
inductive NewsRep (K : Kx) (g : G) (H : Hp) : B → List V → List Nw → List (Addr × HO) → Prop
  | nil {b} : NewsRep K g H b [] [] []
  | val {b v t vs ns hs} : Rep K g H v t → NewsRep K g H b vs ns hs → NewsRep K g H b (v :: vs) (.val t :: ns) hs
  | new {b p ho o vs ns hs} : SRep K g H p o → Hidn b p → NewsRep K g H (b.hide p ho) vs ns hs → NewsRep K g H b (.ref p :: vs) (.new o :: ns) ((p, ho) :: hs)
abbrev Ens := S → R (List Nw)
def rdAN (K : Kx) (f : Ens) : TA := fun σ H Q => ∃ b g s ns s', Sim K b g s σ H ∧ f s = .ok ns s' ∧ ∀ g' H' Vs hs, Sim K (b.hides hs) g' s' σ H' → Step g H g' H' → NewsRep K g' H' b Vs ns hs → Q Vs H'
abbrev FAN (X : Cx) (e : List Expr) (f : Ens) : Prop := PA X e (rdAN X.kx f)
def anNil : Ens := fun s => .ok [] s
def anCons (f : En) (r : Ens) : Ens := fun s => (f s).bind fun n s1 => (r s1).bind fun ns s2 => .ok (n :: ns) s2
theorem NewsRep.length {K : Kx} {g : G} {H : Hp} {b : B} {vs : List V} {ns : List Nw} {hs : List (Addr × HO)} (r : NewsRep K g H b vs ns hs) : vs.length = ns.length := by
  induction r with
  | nil => rfl
  | val _ _ ih => simp [ih]
  | new _ _ _ ih => simp [ih]
theorem NewsRep.step {K : Kx} {g g' : G} {H H' : Hp} (t : Step g H g' H') (e : ∀ a, a ∈ g.mu → H' a = H a) (mk : ∀ a o, H a = some o → H' a = H a) {b : B} {vs : List V} {ns : List Nw} {hs : List (Addr × HO)} (r : NewsRep K g H b vs ns hs) : NewsRep K g' H' b vs ns hs := by
  induction r with
  | nil => exact .nil
  | val a _ ih => exact .val (a.step t) ih
  | new a h _ ih =>
    refine .new (a.step t ?_) h ih
    cases a.rep with
    | lst e _ => exact mk _ _ e
    | dic e _ _ => exact mk _ _ e
    | dicN e _ _ _ _ => exact mk _ _ e
    | dicL e _ _ _ => exact mk _ _ e
    | dicM e _ _ _ _ => exact mk _ _ e
    | tab _ _ e _ _ => exact mk _ _ e
section
variable {X : Cx}
theorem fan_nil : FAN X [] anNil := pa_mono pa_nil fun σ H Q ⟨b, g, s, v, s', m, e, k⟩ => by cases e; exact k g H [] [] m Step.refl .nil
theorem fan_cons {e : Expr} {es : List Expr} {f : En} {r : Ens} (ha : FN X e f) (hr : FAN X es r) (hs : starEach (e :: es) X.env = (false, eval e X.env) :: starEach es X.env := by rfl) : FAN X (e :: es) (anCons f r) :=
  pa_mono (pa_cons ha hr hs) fun σ H Q ⟨b, g, s, v, s', m, e, k⟩ => by
    obtain ⟨n, s1, e1, e⟩ := bind_ok e
    obtain ⟨ns, s2, e2, e⟩ := bind_ok e
    cases e
    refine ⟨b, g, s, n, s1, m, e1, ?_⟩
    cases n with
    | val t => exact fun g1 H1 V m1 t1 r1 => ⟨b, g1, s1, ns, _, m1, e2, fun g2 H2 Vs hs m2 t2 r2 => k g2 H2 _ hs m2 (t1.trans t2) (.val (r1.step t2) r2)⟩
    | new o =>
      intro g1 H1 p ho m1 t1 r1 hb
      refine ⟨b.hide p ho, g1, s1, ns, _, m1, e2, fun g2 H2 Vs hs m2 t2 r2 => k g2 H2 _ ((p, ho) :: hs) m2 (t1.trans t2) (.new (r1.step t2 ?_) hb r2)⟩
      have h2 : H2 p = some ho := by
        have : (p, ho) ∈ ((b.hide p ho).hides hs).hid := by
          clear m2 r2 k m1
          generalize hb' : b.hide p ho = b1
          have h0 : (p, ho) ∈ b1.hid := by rw [← hb']; exact List.mem_cons_self ..
          clear hb' hb
          induction hs generalizing b1 with
          | nil => exact h0
          | cons x hs ih => exact ih (b1.hide x.1 x.2) (List.mem_cons_of_mem _ h0)
        exact (m2.hidn _ this).1
      rw [h2, (m1.hidn (p, ho) (List.mem_cons_self ..)).1]
end
/-- the new things get their places; what the names will hold -/
def allocN (s : S) : List Nw → S × List Slot
  | [] => (s, [])
  | .val t :: ns => ((allocN s ns).1, .val t :: (allocN s ns).2)
  | .new o :: ns => ({ (allocN s ns).1 with lo := (allocN s ns).1.lo ++ [o] }, .own (allocN s ns).1.lo.length :: (allocN s ns).2)
def setF {α : Type} (l : List α) : List Nat → List α → List α
  | i :: is, x :: xs => setF (l.set i x) is xs
  | _, _ => l
def S.news (s : S) (is : List Nat) (ns : List Nw) : S := { (allocN s ns).1 with env := setF (allocN s ns).1.env is (allocN s ns).2 }
def sPar (is : List Nat) (f : Ens) : Sv := fun s => (f s).bind fun ns s1 => .ok .nx (s1.news is ns)
/-- the slots of the values -/
inductive SlotsRep (K : Kx) (g : G) (H : Hp) : List V → List Slot → Prop
  | nil : SlotsRep K g H [] []
  | cons {v e vs es} : SlotRep K g H (some (some v)) e → SlotsRep K g H vs es → SlotsRep K g H (v :: vs) (e :: es)
theorem SlotsRep.step {K : Kx} {g g' : G} {H H' : Hp} (t : Step g H g' H') {vs : List V} {es : List Slot} (r : SlotsRep K g H vs es) : SlotsRep K g' H' vs es := by
  induction r with
  | nil => exact .nil
  | cons a _ ih => exact .cons (a.step t) ih
theorem NewsRep.alloc {K : Kx} {s : S} {σ : St} {H : Hp} {ns : List Nw} {b : B} {g : G} {vs : List V} {hs : List (Addr × HO)} (r : NewsRep K g H b vs ns hs) : Sim K (b.hides hs) g s σ H → ∃ g', Sim K b g' (allocN s ns).1 σ H ∧ Step g H g' H ∧ SlotsRep K g' H vs (allocN s ns).2 := by
  induction r with
  | nil => exact fun m => ⟨g, m, Step.refl, .nil⟩
  | val r rr ih =>
    intro m
    obtain ⟨g', m', t', r'⟩ := ih m
    exact ⟨g', m', t', .cons ⟨_, rfl, r.step t'⟩ r'⟩
  | new r hb rr ih =>
    intro m
    obtain ⟨g', m', t', r'⟩ := ih m
    obtain ⟨m2, t2, a2⟩ := m'.showOwn hb (r.rep.step t' rfl)
    exact ⟨_, m2, t'.trans t2, .cons ⟨_, rfl, a2⟩ (r'.step t2)⟩
theorem Sim.setF {K : Kx} {b : B} {g : G} {H : Hp} : ∀ {is : List Nat} {s : S} {σ : St} {vs : List V} {es : List Slot}, Sim K b g s σ H → SlotsRep K g H vs es → Sim K b g { s with env := Z.setF s.env is es } (Z.setF σ is (vs.map some)) H
  | [], s, σ, _, _, m, r => by cases r <;> exact m
  | i :: is, s, σ, _, _, m, .nil => m
  | i :: is, s, σ, _, _, m, .cons a r => by
    have := Sim.setF (is := is) (m.putSlot (i := i) a) r
    exact this
theorem Sim.news {K : Kx} {s : S} {σ : St} {H : Hp} {ns : List Nw} {b : B} {g : G} {vs : List V} {hs : List (Addr × HO)} (is : List Nat) (m : Sim K (b.hides hs) g s σ H) (r : NewsRep K g H b vs ns hs) : ∃ g', Sim K b g' (s.news is ns) (Z.setF σ is (vs.map some)) H ∧ Step g H g' H := by
  obtain ⟨g', m', t', r'⟩ := r.alloc m
  exact ⟨g', m'.setF r', t'⟩
section
variable {X : Cx} {pos : Pos} {fa : Ens}
theorem list1 {α : Type} {l : List α} {n : Nat} (h : l.length = n + 1) : ∃ x r, l = x :: r ∧ r.length = n := by
  cases l with
  | nil => cases h
  | cons x r => exact ⟨x, r, rfl, by simpa using h⟩
/-- two local names -/
theorem fs_par2 {i j : Nat} {x y : Str} {a c : Expr} {px py pt : Pos} {kt k2 pt2} (hc : X.calm = true) (hN : X.N.Nodup) (ha : FAN X [a, c] fa) (hi : X.N[i]? = some x := by rfl) (hj : X.N[j]? = some y := by rfl) (hij : i ≠ j := by decide)
    (hx : X.env.scope.names.lookup x = some .local := by rfl) (hy : X.env.scope.names.lookup y = some .local := by rfl) (hn : ∀ s ns s', fa s = .ok ns s' → ns.length = 2)
    (hw : swappedStores [.Tuple [.Name x px, .Name y py] kt pt] (.Tuple [a, c] k2 pt2) X.env = pure (some [x, y]) := by rfl) (hs : swapsWithSole [.Tuple [.Name x px, .Name y py] kt pt] (.Tuple [a, c] k2 pt2) pos.line X.env = pure false := by rfl) :
    FS X (.Assign [.Tuple [.Name x px, .Name y py] kt pt] (.Tuple [a, c] k2 pt2) pos) (sPar [i, j] fa) := ps_mono (ps_par hc hN hi hj hij hx hy ha hw hs) fun D σ H ⟨b, g, s, fl, s', m, e, k⟩ => by
  obtain ⟨ns, s1, e1, e⟩ := bind_ok e
  cases e
  refine ⟨b, g, s, ns, s1, m, e1, fun g1 H1 Vs hs m1 t1 r1 => ?_⟩
  obtain ⟨v, r, rfl, l1⟩ := list1 (r1.length.trans (hn _ _ _ e1))
  obtain ⟨w, r, rfl, l2⟩ := list1 l1
  cases r with
  | cons _ _ => cases l2
  | nil =>
    obtain ⟨g2, m2, t2⟩ := m1.news [i, j] r1
    exact ⟨v, w, rfl, k g2 _ H1 m2 (t1.trans t2)⟩
theorem len_an2 {f h : En} : ∀ s ns s', anCons f (anCons h anNil) s = .ok ns s' → ns.length = 2 := fun s ns s' e => by
  obtain ⟨_, _, _, e⟩ := bind_ok e
  obtain ⟨_, _, e2, e⟩ := bind_ok e
  obtain ⟨_, _, _, e2⟩ := bind_ok e2
  obtain ⟨_, _, e3, e2⟩ := bind_ok e2
  cases e3
  cases e2
  cases e
  rfl
/-- several names by a tuple -/
inductive NmG (X : Cx) : List Expr → List Nat → Prop
  | nil : NmG X [] []
  | cons {x i pos es is} (hN : X.N.Nodup) (hi : X.N[i]? = some x) (hx : Loc X.env.scope x) (hf : X.fn x = true ∨ X.env.scope.names.lookup x = some .local) : NmG X es is → NmG X (.Name x pos :: es) (i :: is)
def gNms : List Nat → TGs
  | [] => gNil
  | i :: is => gCons (gName i) (gNms is)
theorem pgs_nms {es : List Expr} {is : List Nat} (h : NmG X es is) (hs : ∀ (x : Str) (pos : Pos) r, (assignEach (.Name x pos :: r) X.env).map (·.2) = assign (.Name x pos) X.env :: (assignEach r X.env).map (·.2)) : PGs X es (gNms is) := by
  induction h with
  | nil => exact pgs_nil
  | cons hN hi hx hf _ ih => exact pgs_cons (pg_name hN hi hx hf) ih (hs _ _ _)
theorem gNms_run {H : Hp} {Q : St → Hp → Prop} : ∀ {is : List Nat} {vs : List V} {σ : St}, vs.length = is.length → Q (setF σ is (vs.map some)) H → gNms is vs σ H Q
  | [], [], _, _, q => ⟨rfl, q⟩
  | i :: is, v :: vs, σ, l, q => ⟨v, vs, rfl, gNms_run (by simpa using l) q⟩
theorem fs_parT {es vs : List Expr} {is : List Nat} {kt k2 : Nat} {pt pt2 : Pos} {n : Nat} (hc : X.calm = true) (hg : NmG X es is) (ha : FAN X vs fa) (hl : ∀ s ns s', fa s = .ok ns s' → ns.length = n) (hi : is.length = n := by rfl) (h1000 : n ≤ 1000 := by decide)
    (hn : (assignEach es X.env).length = n := by rfl) (hst : (assignEach es X.env).findIdx? (·.1) = none := by rfl) (hs1 : ∀ (x : Str) (pos : Pos) r, (assignEach (.Name x pos :: r) X.env).map (·.2) = assign (.Name x pos) X.env :: (assignEach r X.env).map (·.2) := by intros; rfl)
    (hs : swapsWithSole [.Tuple es kt pt] (.Tuple vs k2 pt2) pos.line X.env = pure false := by rfl) (hw : swappedStores [.Tuple es kt pt] (.Tuple vs k2 pt2) X.env = pure none := by rfl)
    (h1 : (assignEach [.Tuple es kt pt] X.env).map (·.2) = [assign (.Tuple es kt pt) X.env] := by rfl) : FS X (.Assign [.Tuple es kt pt] (.Tuple vs k2 pt2) pos) (sPar is fa) :=
  ps_mono (ps_asg (pe_tup ha) (pg_tup hc (pgs_nms hg hs1) hn hst) hs hw h1) fun D σ H ⟨b, g, s, fl, s', m, e, k⟩ => by
    obtain ⟨ns, s1, e1, e⟩ := bind_ok e
    cases e
    have ln := hl _ _ _ e1
    refine ⟨b, g, s, ns, s1, m, e1, fun g1 H1 Vs hs m1 t1 r1 => ⟨le1000 (by rw [r1.length, ln]; exact h1000), fun p hp => ?_⟩⟩
    have x : Ext H1 (upd H1 p (.tup Vs)) := Ext.new hp
    have r2 : NewsRep X.kx g1 (upd H1 p (.tup Vs)) b Vs ns hs := r1.step (Step.ext x) (fun a ha => mut_ext x (m1.muk a ha)) (fun a o e => (x a o e).trans e.symm)
    obtain ⟨g2, m2, t2⟩ := (m1.ext x).news is r2
    exact ⟨p, Vs, rfl, SqT.of upd_same, r1.length.trans ln, gNms_run (by rw [r1.length, ln, hi]) (k g2 _ _ m2 (t1.trans ((Step.ext x).trans t2)))⟩
end
def sStuck : Sv := fun _ => .no
theorem fs_never {X : Cx} {st : Stmt} : FS X st sStuck := ⟨fun _ _ _ _ _ _ ⟨_, _, _, _, _, _, e, _⟩ => by cases e⟩
end L2.Z
set_option Elab.async false
set_option linter.all false
set_option maxRecDepth 100000
set_option maxHeartbeats 2000000
namespace L2.Z
open PySem PySem.Spec PyProof.Rows
section
variable {X : Cx} {pos apos cpos p : Pos} {o i a c e : Expr} {es : List Expr} {fp : Ep} {f h : Ev} {fa fb : Ea} {k : Bool}
/-- l + l', two lists: a new one -/
def opAddL (x y : T) : Option (List T) := match x, y with
  | .lst a, .lst b => if a.length + b.length ≤ 16777216 then some (a ++ b) else none
  | _, _ => none
theorem lnew_of {pins : List (Addr × Obj)} {σ : St} {H : Hp} {s : Shared} {vs : List V} {its : List Value} (I : Inv X pins σ H s) (r : Vals vs its) (z : vs.length ≤ sizeLine) : Inv X pins σ (upd H s.heap.objs.size (.lst vs)) { s with heap := s.heap.push { cls := .type "list", data := .seq its.toArray } } ∧ H s.heap.objs.size = none := by
  refine ⟨?_, I.fresh⟩
  have := I.lnew (t' := s.toks) r z
  exact this
theorem oz_addL : OpR X (binaryOp .Add) (rOpF X.kx opAddL) := by
  intro pins s σ H x y v u Q I rx ry ⟨g, tx, ty, z, mk, r1, r2, e, q⟩
  cases tx with
  | lst ta =>
    cases ty with
    | lst tb =>
      have e : (if ta.length + tb.length ≤ 16777216 then some (ta ++ tb) else none) = some z := e
      split at e
      · rename_i l
        cases e
        obtain ⟨a, vs, rfl, h1, q1⟩ := rep_lst r1
        obtain ⟨b, ws, rfl, h2, q2⟩ := rep_lst r2
        obtain rfl : v = Value.ref a := rx
        obtain rfl : u = Value.ref b := ry
        obtain ⟨its, rv, p1, _⟩ := I.list h1
        obtain ⟨its2, rv2, p2, _⟩ := I.list h2
        obtain ⟨⟨cls, dd, data, sl⟩, ho, hc, n, hd⟩ := p1.isList
        obtain ⟨⟨cls2, dd2, data2, sl2⟩, ho2, hc2, n2, hd2⟩ := p2.isList
        simp only at hc hd hc2 hd2
        subst hc hd hc2 hd2
        have lz : vs.length + ws.length ≤ sizeLine := by rw [q1.length, q2.length]; exact fit_of l
        have ez : its.toArray ++ its2.toArray = (its ++ its2).toArray := by simp
        refine concat_meets ⟨_, ho, rfl⟩ ⟨_, ho2, rfl⟩ noFill_list_add seq_list_add PySem.F.slot_list_add PySem.F.entry_list_add (PySem.F.args_list_add_2 _ _) (list_addW a b its.toArray its2.toArray n n2 dd dd2 sl sl2 (by rw [List.size_toArray, List.size_toArray, ← rv.length, ← rv2.length]; exact lz)) ⟨ho, ho2, ?_⟩
        rw [ez]
        obtain ⟨I2, hn⟩ := lnew_of I (rv.append rv2) (by rw [List.length_append]; exact lz)
        exact ⟨.ref _, _, I2, rfl, q (vs ++ ws) H _ (Ext.refl H) (q1.append q2) hn⟩
      · cases e
    | _ => cases e
  | _ => cases e
/-- a text times a number -/
def strRep (n : Nat) (z : Str) : Str := ⟨((List.replicate n z.cps.toList).flatten).toArray⟩
theorem fold_rep (a : Array Nat) : ∀ (n : Nat) (acc : Array Nat), (List.foldl (fun x1 x2 => x1 ++ x2) acc (List.replicate n a)).toList = acc.toList ++ (List.replicate n a.toList).flatten
  | 0, acc => by simp
  | n + 1, acc => by
    rw [List.replicate_succ, List.foldl_cons, fold_rep a n (acc ++ a), Array.toList_append, List.replicate_succ, List.flatten_cons, List.append_assoc]
theorem strRep_eq (n : Nat) (z : Str) : (⟨List.foldl (fun x1 x2 => x1 ++ x2) #[] (List.replicate n z.cps)⟩ : Str) = strRep n z := by
  unfold strRep
  congr 1
  rw [← Array.toList_inj, fold_rep]
  simp
theorem strRep_length (n : Nat) (z : Str) : (strRep n z).length = n * z.length := by
  show ((List.replicate n z.cps.toList).flatten.toArray).size = n * z.cps.size
  rw [List.size_toArray, List.length_flatten, List.map_replicate, List.sum_replicate_nat]
  simp
theorem strRep_same {n : Int} {z : Str} (h : (n == 1 || z.length == 0) = true) : strRep n.toNat z = z := by
  obtain ⟨a⟩ := z
  unfold strRep
  congr 1
  rw [← Array.toList_inj]
  show (List.replicate n.toNat a.toList).flatten = a.toList
  rw [Bool.or_eq_true] at h
  rcases h with h | h
  · have : n = 1 := by simpa using h
    subst this
    show (List.replicate 1 a.toList).flatten = a.toList
    simp
  · have : a.toList = [] := by
      have h : (⟨a⟩ : Str).length = 0 := by simpa using h
      have h : a.size = 0 := h
      exact List.eq_nil_of_length_eq_zero h
    rw [this, lm_rep_nil]
def opMulS (x y : T) : Option T := match x, y with
  | .str z, .int n => if 1 ≤ n ∧ n ≤ 1000 ∧ z.length ≤ 1000 then some (.str (strRep n.toNat z)) else none
  | _, _ => none
theorem oz_mulS : OpR X (binaryOp .Mult) (rOp X.kx opMulS) := by
  intro pins s σ H x y v u Q I rx ry ⟨g, tx, ty, z, mk, r1, r2, e, q⟩
  cases tx with
  | str x0 =>
    cases ty with
    | int n =>
      have e : (if 1 ≤ n ∧ n ≤ 1000 ∧ x0.length ≤ 1000 then some (T.str (strRep n.toNat x0)) else none) = some z := e
      split at e
      · rename_i cnd
        cases e
        cases rep_str r1
        cases rep_int r2
        obtain ⟨t, rfl⟩ := (show ∃ t, v = Value.str x0 t from rx)
        obtain ⟨t', rfl⟩ := (show ∃ t, u = Value.int n t from ry)
        have c1 := cnd.1
        have c2 := cnd.2.1
        have c3 := cnd.2.2
        have hm : x0.length * n.toNat ≤ 1000000 := by
          have : n.toNat ≤ 1000 := by omega
          calc x0.length * n.toNat ≤ 1000 * 1000 := Nat.mul_le_mul c3 this
            _ = 1000000 := by decide
        refine PySem.P.mul_str ?_ (fun _ _ => ?_) (fun _ _ => ?_) ?_
        · rw [decide_eq_false (by omega), decide_eq_false (by omega)]; rfl
        · have : (9223372036854775 : Int) ≤ (2 ^ 63 - 1) / n := by
            rw [Int.le_ediv_iff_mul_le (by omega)]
            have : (9223372036854775 : Int) * n ≤ 9223372036854775 * 1000 := by omega
            omega
          omega
        · unfold Builtin.Str.tooLong
          exact decide_eq_false (by rw [sizeLine_eq]; omega)
        · rw [if_neg (by omega)]
          by_cases c : (n == 1 || x0.length == 0) = true
          · rw [if_pos c]
            rw [strRep_same c] at q
            exact ⟨.str x0, H, I, ⟨_, rfl⟩, q _ _ (Ext.refl H) (.str _)⟩
          · rw [if_neg c]
            rw [strRep_eq]
            refine ⟨?_, .str _, H, I.tok _, ⟨_, rfl⟩, q _ _ (Ext.refl H) (.str _)⟩
            rw [strRep_length, Nat.mul_comm, sizeLine_eq]
            omega
      · cases e
    | _ => cases e
  | _ => cases e
def isStrs : List T → Option (List Str)
  | [] => some []
  | .str c :: r => (isStrs r).map (c :: ·)
  | _ => none
theorem strs_rep {K : Kx} {g : G} {H : Hp} : ∀ {vs : List V} {ts : List T} {bs : List Str}, RepL K g H vs ts → isStrs ts = some bs → vs = bs.map V.str
  | _, _, _, .nil, h => by cases h; rfl
  | _, _, _, .cons (t := t) (ts := ts) r rr, h => by
    cases t with
    | str c =>
      have h : (isStrs ts).map (c :: ·) = some _ := h
      cases q : isStrs ts with
      | none => rw [q] at h; cases h
      | some bs =>
        rw [q] at h
        cases h
        cases r
        rw [strs_rep rr q]; rfl
    | _ => cases h
/-- a.join(l) -/
def fJoin (f : Ev) (h : Ea) : Ev := fun s => (f s).bind fun t s1 => (h s1).bind fun ts s2 => match t with
  | .str a => match isStrs ts with
    | some ys => if (ys.map (·.length)).sum + ys.length * a.length ≤ 16777216 then .ok (.str (Txt.join a ys)) s2 else .no
    | none => .no
  | _ => .no
theorem fe_join (ho : FE X o f) (ha : FQ X k e fa) (hbase : attributeBase o "join" X.env (eval o X.env) = eval o X.env := by rfl)
    (hfew : ((backTo cpos (starEach (e :: []) X.env)).all (fun x => !x.1) && (backToKw cpos (keywordEach [] X.env)).all (fun x => x.1.isSome)
      && decide ((e :: ([] : List Expr)).length + ([] : List Keyword).length + (if ([] : List Keyword).isEmpty then 0 else 1) < 30)) = true := by rfl)
    (hline : (apos.endLine == cpos.line) = true := by rfl) (hs : starEach (e :: []) X.env = (false, eval e X.env) :: starEach [] X.env := by rfl) (hplain : (backTo cpos (starEach [] X.env)).any (·.1) = false := by rfl) :
    FE X (.Call (.Attribute o "join" apos) [e] [] cpos) (fJoin f fa) := pe_mono (pe_bm PySem.F.plainAttrs_str PySem.F.slot_str_join PySem.F.type_str_join mt_join ho (fa_q ha hs) hbase hfew hline hs hplain) fun σ H Q ⟨b, g, s, v, s', m, ev, q⟩ => by
  obtain ⟨t, s1, e1, ev⟩ := bind_ok ev
  obtain ⟨ts, s2, e2, ev⟩ := bind_ok ev
  cases t with
  | str a =>
    dsimp only at ev
    split at ev
    · rename_i ys hy
      split at ev
      · rename_i l
        cases ev
        refine ⟨b, g, s, _, s1, m, e1, fun g1 H1 V m1 t1 r1 => ?_⟩
        cases rep_str r1
        refine ⟨?_, b, g1, s1, ts, _, m1, e2, fun g2 H2 p vs m2 t2 hs hr => ⟨a, p, ys, rfl, rfl, strs_rep hr hy ▸ sq_or hs, l, q g2 H2 _ m2 (t1.trans t2) (.str _)⟩⟩
        exact (show tyV X.K "str" (.str a) H1 from rfl)
      · cases ev
    · cases ev
  | _ => cases ev
open PySem.W in
/-- what may be sorted: plain things of one kind -/
def srtOk (ts : List T) : Bool := okT (.lst ts) && decide (ts.length ≤ 16777216) && (toDs ts).all (fun d => (toDs ts).all fun e => PySem.W.alike d e) && (ts.all (fun t => match t with | .tup (_ :: _) => true | .pr (_ :: _) => true | _ => false) || ts.all (fun t => match t with | .non => false | .tup _ => false | .pr _ => false | _ => true)) && decide ((PyData.depthAll (toDs ts)) ≤ 100)
def sortT (ts : List T) : List T := ts.mergeSort (PySem.W.dataLe false toD)
theorem srtOk_iff {ts : List T} (h : srtOk ts = true) : okT (.lst ts) = true ∧ ts.length ≤ 16777216 ∧ PySem.W.AllAlike (ts.map toD) ∧ PySem.W.Sortable (ts.map toD) ∧ PyData.depthAll (toDs ts) ≤ 100 := by
  unfold srtOk at h
  simp only [Bool.and_eq_true, decide_eq_true_eq] at h
  obtain ⟨⟨⟨⟨h1, h2⟩, h3⟩, h4⟩, h5⟩ := h
  refine ⟨h1, h2, fun d hd e he => ?_, ?_, h5⟩
  · rw [List.all_eq_true] at h3
    have := h3 d (by rw [toDs_map]; exact hd)
    rw [List.all_eq_true] at this
    exact this e (by rw [toDs_map]; exact he)
  · rw [Bool.or_eq_true, List.all_eq_true, List.all_eq_true] at h4
    rcases h4 with h4 | h4
    · refine .inl fun d hd => ?_
      obtain ⟨t, ht, rfl⟩ := List.mem_map.mp hd
      have := h4 t ht
      cases t with
      | tup us =>
        cases us with
        | nil => cases this
        | cons u us => exact ⟨toD u, toDs us, rfl⟩
      | pr us =>
        cases us with
        | nil => cases this
        | cons u us => exact ⟨toD u, toDs us, rfl⟩
      | _ => cases this
    · refine .inr fun d hd => ?_
      obtain ⟨t, ht, rfl⟩ := List.mem_map.mp hd
      have := h4 t ht
      cases t <;> first | (cases this; done) | (refine ⟨fun z => by simp [toD] at z, fun xs z => by simp [toD] at z⟩)
def RT (K : Kx) (g : G) (H : Hp) (v : Value) (t : T) : Prop := ∃ V, RelV V v ∧ Rep K g H V t
theorem each_of {K : Kx} {g : G} {H : Hp} : ∀ {Vs : List V} {vs : List Value} {ts : List T}, Vals Vs vs → RepL K g H Vs ts → PySem.W.EachIs (RT K g H) vs ts
  | _, _, _, .nil, .nil => .nil
  | _, _, _, .cons a b, .cons r rr => .cons ⟨_, a, r⟩ (each_of b rr)
theorem of_each {K : Kx} {g : G} {H : Hp} {vs : List Value} {ts : List T} (h : PySem.W.EachIs (RT K g H) vs ts) : ∃ Vs, Vals Vs vs ∧ RepL K g H Vs ts := by
  induction h with
  | nil => exact ⟨[], .nil, .nil⟩
  | cons a _ ih =>
    obtain ⟨V, h1, h2⟩ := a
    obtain ⟨Vs, h3, h4⟩ := ih
    exact ⟨V :: Vs, .cons h1 h3, .cons h2 h4⟩
theorem depth_le : ∀ {ts : List T} {t : T}, t ∈ ts → (toD t).depth ≤ PyData.depthAll (toDs ts)
  | x :: ts, t, h => by
    rw [toDs, PyData.depthAll]
    rcases List.mem_cons.mp h with rfl | h
    · omega
    · have := depth_le h
      omega
theorem each_reads {pins : List (Addr × Obj)} {σ : St} {H : Hp} {s : Shared} {g : G} (I : Inv X pins σ H s) : ∀ {Vs : List V} {vs : List Value} {ts : List T}, Vals Vs vs → RepL X.kx g H Vs ts → PyData.plainAll (toDs ts) = true → PySem.W.EachIs (fun v b => ∃ as, Reads s.heap v (toD b) as) vs ts
  | _, _, _, .nil, .nil, _ => .nil
  | _, _, _, .cons a b, .cons r rr, h => by
    rw [toDs, PyData.plainAll, Bool.and_eq_true] at h
    exact .cons (rep_reads I r a h.1) (each_reads I b rr h.2)
def rSort (K : Kx) : List V → Hp → VK → Prop := fun xs H Q => ∃ (g : G) (a : Addr) (vs : List V) (ts : List T), xs = [.ref a] ∧ SqL K.K H a vs ∧ RepL K g H vs ts ∧ srtOk ts = true ∧ ∀ Vs p, RepL K g H Vs (sortT ts) → H p = none → Q (.ref p) (upd H p (.lst Vs))
theorem sorted_end {pins : List (Addr × Obj)} {σ : St} {g : G} {H : Hp} {s : Shared} {ts : List T} {its out : List Value} {Q : VK} (I : Inv X pins σ H s) (ho : out.length = ts.length) (hz : ts.length ≤ 16777216) (e : PySem.W.EachIs (RT X.kx g H) out (sortT ts)) (q : ∀ Vs p, RepL X.kx g H Vs (sortT ts) → H p = none → Q (.ref p) (upd H p (.lst Vs))) :
    EP X pins σ Q (.ref (s.heap.objs.size + 1)) { s with heap := sortedAll s.heap its out.toArray } := by
  obtain ⟨Vs, rv, rr⟩ := of_each e
  obtain ⟨c, hc⟩ := sortedAll_at s.heap its out.toArray
  have hn : H (s.heap.objs.size + 1) = none := I.hok.fresh (Nat.le_succ _)
  have lv : Vs.length ≤ sizeLine := by
    rw [rv.length, ho]; exact fit_of hz
  refine ⟨.ref (s.heap.objs.size + 1), _, I.laid (t' := s.toks) (a := s.heap.objs.size + 1) (o := .lst Vs) (fun b o q => sortedAll_old q) (Nat.le_succ _) ⟨lv, out, c, rv, hc⟩, rfl, q Vs _ rr hn⟩
theorem cr_sort (hu : X.A.units + 103 < cLine) : CallR X (.builtin "sorted") (rSort X.kx) := by
  intro pins s σ H xs us Q I rs ⟨g, a, vs, ts, e, h1, h2, hk, q⟩
  subst e
  obtain ⟨u, rfl, ru⟩ := vals1 rs
  obtain rfl : u = Value.ref a := ru
  obtain ⟨k1, k2, k3, k4, k5⟩ := srtOk_iff hk
  obtain ⟨its, rv, pl, z⟩ := I.list h1
  refine PySem.W.sorted_data (enc := toD) pl.isList (each_of rv h2) (each_reads I rv h2 (by simpa [okT, toD, PyData.plain] using k1)) k3 k4 (fit_of k2) (fun b hb => ?_) fun out ho eo => ?_
  · have := depth_le hb
    omega
  · exact sorted_end I ho k2 eo q
def aSort (f : Ea) : Ea := fun s => (f s).bind fun ts s1 => if srtOk ts = true then .ok (sortT ts) s1 else .no
theorem ff_sort (hu : X.A.units + 103 < cLine) (hg : Gl X "sorted") (hm : X.mg "sorted" = none) (hq : FQ X true e fa) (he : starEach (e :: []) X.env = (false, eval e X.env) :: starEach [] X.env := by rfl) : FF X (.Call (.Name "sorted" p) [e] [] pos) (aSort fa) :=
  pe_mono (pe_callB (cr_sort hu) hg hm (by decide +kernel) (fa_q hq he) (by decide) (by decide) he (by rfl)) fun σ H Q ⟨b, g, s, v, s', m, e, q⟩ => by
    obtain ⟨ts, s1, e1, e⟩ := bind_ok e
    split at e
    · rename_i c
      cases e
      exact ⟨b, g, s, ts, _, m, e1, fun g' H' a vs m' t' hs hr => ⟨g', a, vs, ts, rfl, hs, hr, c, fun Vs p rr hp => q _ _ Vs p (m'.hide hp trivial) (t'.trans (step_new hp)) (rr.step (step_new hp)) (m'.hidn' hp)⟩⟩
    · cases e
end
end L2.Z
set_option Elab.async false
set_option linter.all false
set_option maxRecDepth 100000
set_option maxHeartbeats 2000000
namespace L2.Z
open PySem PySem.Spec PyProof.Rows
theorem paired_get {α β : Type} {R : α → β → Prop} : ∀ {l : List α} {m : List β} {i : Nat} {x : α}, Paired R l m → l[i]? = some x → ∃ y, m[i]? = some y ∧ R x y
  | _, _, _, _, .nil, e => by simp at e
  | _, _, 0, _, .cons r _, e => by simp at e; subst e; exact ⟨_, rfl, r⟩
  | _, _, i + 1, _, .cons _ t, e => by
    obtain ⟨y, h1, h2⟩ := paired_get (i := i) t (by simpa using e)
    exact ⟨y, by simpa using h1, h2⟩
theorem vals_at : ∀ {Vs : List V} {vs : List Value}, Vs.length = vs.length → (∀ (i : Nat) (v : Value), vs[i]? = some v → ∃ V, Vs[i]? = some V ∧ RelV V v) → Vals Vs vs
  | [], [], _, _ => .nil
  | V :: Vs, v :: vs, l, h => by
    obtain ⟨V', h1, h2⟩ := h 0 v rfl
    cases h1
    exact .cons h2 (vals_at (by simpa using l) fun i v e => by
      obtain ⟨W, h3, h4⟩ := h (i + 1) v (by simpa using e)
      exact ⟨W, by simpa using h3, h4⟩)
/-- a dict's keys as a source, by its entries alone -/
theorem src_raw {prog : Program} {w : World} {d : Addr} {es : Array DictEntry} {ep : Nat} {P : Nat → Value → Prop} (lo : (d == sysModules) = false) (hP : ∀ i (hi : i < es.size), P i es[i].key) : PySem.W.KdlSrc prog w "dict" d d es.size P (fun h => h.DictRaw d es ep) where
  type := fun s hm => hm.typeIs
  there := fun h hm => ⟨let ⟨_, e, _⟩ := hm; Heap.lt_size e, let ⟨_, e, _⟩ := hm; Heap.lt_size e⟩
  keep := fun h h' hm hk => hm.at fun o e => hk d (.inl rfl) o e
  notList := by decide
  notTuple := by decide
  hint := fun A E s Q hm hq => PySem.W.kdl_hint_dict hm.typeIs hq
  iter := fun A s hh hm => ⟨_, _, fun E Q hq => wpAny_pyIter_dict_raw lo hm hq, (Walks.rawKeys hh _ d (Nat.ne_of_lt (let ⟨_, e, _⟩ := hm; Heap.lt_size e)) es ep).mono_item fun i v _ ⟨hi, e⟩ => by rw [e]; exact hP i hi,
    ⟨⟨_, Heap.get?_push_size _ rfl, rfl, rfl⟩, hm.at fun o e => Heap.get?_push_of_some _ e⟩⟩
/-- the keys, as they stand in the dict at a -/
def rSortD (K : Kx) : List V → Hp → VK → Prop := fun xs H Q => ∃ (g : G) (a : Addr) (ks vs : List T), xs = [.ref a] ∧ ORep K g H a (.dic ks vs) ∧ srtOk ks = true ∧ ∀ Vs p, RepL K g H Vs (sortT ks) → H p = none → Q (.ref p) (upd H p (.lst Vs))
section
variable {X : Cx} {pins : List (Addr × Obj)} {σ : St} {H : Hp} {s : Shared} {g : G}
/-- a dict's entries and the keys that they stand for -/
theorem dic_raw {a : Addr} {ks vs : List T} (I : Inv X pins σ H s) (r : ORep X.kx g H a (.dic ks vs)) : (a == sysModules) = false ∧ ∃ es ep, s.heap.DictRaw a es ep ∧ es.size = ks.length ∧ ∃ Vs : List V, RepL X.kx g H Vs ks ∧ ∀ i (hi : i < es.size), ∃ V, Vs[i]? = some V ∧ RelV V es[i].key := by
  cases r with
  | dic h1 h2 h3 =>
    rename_i kvs
    obtain ⟨z, lo, us, rel, dd⟩ := dk_of I.hok h1
    obtain ⟨es, ep, dr, hs, hat⟩ := dd.raw
    refine ⟨lo, es, ep, dr, ?_, _, h2, fun i hi => ?_⟩
    · rw [hs, ← rel.length]
      have := h2.length
      rw [List.length_map] at this
      exact this
    · have hi2 : i < kvs.length := by rw [rel.length, ← hs]; exact hi
      obtain ⟨q, hq, hr⟩ := paired_get rel (List.getElem?_eq_getElem hi2)
      obtain ⟨k1, k2⟩ := hat i hi q.1 q.2 hq
      refine ⟨kV kvs[i].1, by rw [List.getElem?_map, List.getElem?_eq_getElem hi2]; rfl, ?_⟩
      rw [hr.1]
      generalize q.1 = kk at k1
      cases kk with
      | inl n =>
        obtain ⟨t, e⟩ := Value.isInt_shape k1
        exact ⟨t, e⟩
      | inr y =>
        obtain ⟨t, e⟩ := Value.isStrOf_shape k1
        exact ⟨t, e⟩
  | dicN h1 h2 h3 h4 h5 =>
    rename_i kvs
    obtain ⟨z, lo, xs, p2, dd⟩ := dn_at I (.inl h1) (kok_all h2 h4)
    obtain ⟨es, ep, dr, hs, hat⟩ := dd.raw
    refine ⟨lo, es, ep, dr, ?_, _, h2, fun i hi => ?_⟩
    · rw [hs, ← Paired.length p2]
      have := h2.length
      rw [List.length_map] at this
      exact this
    · obtain ⟨y, hy, e1, e2, _⟩ := hat i hi
      have hi2 : i < kvs.length := by rw [Paired.length p2, ← hs]; exact hi
      obtain ⟨q, hq, hr⟩ := paired_get p2 (List.getElem?_eq_getElem hi2)
      rw [hy] at hq
      cases hq
      exact ⟨.ref kvs[i].2.1, by rw [List.getElem?_map, List.getElem?_eq_getElem hi2]; rfl, by rw [hr.2.1]; exact e1⟩
theorem cr_sortD (hc : X.calm = true) (hu : X.A.units + 103 < cLine) : CallR X (.builtin "sorted") (rSortD X.kx) := by
  intro pins s σ H xs us Q I rs ⟨g, a, ks, ws, e, h1, hk, q⟩
  subst e
  obtain ⟨u, rfl, ru⟩ := vals1 rs
  obtain rfl : u = Value.ref a := ru
  obtain ⟨k1, k2, k3, k4, k5⟩ := srtOk_iff hk
  obtain ⟨lo, es, ep, dr, hs, Vs, hr, hat⟩ := dic_raw I h1
  refine Calls.call_function_entry PyProof.Rows.kind_sorted PyProof.Rows.plain_sorted PyProof.Rows.entry_sorted (PyProof.Rows.args_sorted1 _) ?_
  unfold Builtin.«sorted»
  refine wpAny_bind (m := checkCount "sorted" 1 1 _) (wpAny_pure ?_)
  refine wpAny_bind (PySem.W.kdu_collect (A := X.A.in1) (src_raw (P := fun i v => ∃ V, Vs[i]? = some V ∧ RelV V v) lo fun i hi => hat i hi) (I.ok.hd hc) dr (by rw [hs]; exact fit_of k2) fun h' tk acc hk2 hacc => ?_)
  have hl : acc.toList.length = ks.length := by rw [Array.length_toList, hacc.1, hs]
  have rv : Vals Vs acc.toList := by
    have lv : Vs.length = acc.toList.length := by rw [hr.length, hl]
    refine vals_at lv fun i v e => ?_
    exact hacc.2 i v (by rw [← Array.getElem?_toList]; exact e)
  have I1 : Inv X pins σ H { s with heap := h', toks := tk } := I.kept hk2
  have z : acc.toList.length ≤ sizeLine := by rw [hl]; exact fit_of k2
  refine wpAny_bind (wpAny_newList ?_ z)
  have hoL : (h'.push (seqObj "list" acc.toList.toArray 0)).get? h'.objs.size = some (seqObj "list" acc.toList.toArray 0) := Heap.get?_push_size _ rfl
  show wpAny _ _ _ _ _ { s with heap := h'.push (seqObj "list" acc.toList.toArray 0), toks := tk }
  have old : ∀ b o, h'.get? b = some o → (PySem.W.sortingHeap (h'.push (seqObj "list" acc.toList.toArray 0)) h'.objs.size acc.toList).get? b = some o := fun b o e => PySem.W.sortingHeap_old (Nat.ne_of_lt (Heap.lt_size e)) (Heap.get?_push_of_some _ e)
  have er : PySem.W.EachIs (fun v b => ∃ as, Reads (PySem.W.sortingHeap (h'.push (seqObj "list" acc.toList.toArray 0)) h'.objs.size acc.toList) v (toD b) as) acc.toList ks :=
    (each_reads I1 rv hr (by simpa [okT, toD, PyData.plain] using k1)).mono fun _ _ ⟨as, r⟩ => ⟨as, PyProof.Rows.Reads.keeps old r⟩
  refine wpAny_bind (wpAny_holding (wpAny_call_entry PyProof.Rows.slot_list_sort ⟨_, hoL, rfl⟩ PyProof.Rows.entry_list_sort
    (PySem.W.list_sort_vals (s := { s with heap := h'.push (seqObj "list" acc.toList.toArray 0), toks := tk }) (κ := PySem.W.dataKind (PySem.W.sortingHeap (h'.push (seqObj "list" acc.toList.toArray 0)) h'.objs.size acc.toList) (ks.map toD)) hoL
      (PySem.W.SortsAt.data (s := { s with heap := PySem.W.sortingHeap (h'.push (seqObj "list" acc.toList.toArray 0)) h'.objs.size acc.toList, toks := tk }) (PySem.W.each_map (R := fun v d => ∃ as, Reads (PySem.W.sortingHeap (h'.push (seqObj "list" acc.toList.toArray 0)) h'.objs.size acc.toList) v d as) toD er) k3 k4 (PySem.W.bound_map fun b hb => ?_)) z ⟨.none, rfl, ?_⟩)
    (PyProof.Rows.args_list_sort _)))
  · have := depth_le hb
    show X.A.in1.in1.units + _ < _
    have : X.A.in1.in1.units ≤ X.A.units + 2 := by first | exact Nat.le_refl _ | (simp [Around.in1])
    omega
  · have eo := PySem.W.sortVals_data false (each_of rv hr) er k3
    obtain ⟨Ws, rw', rr⟩ := of_each eo
    obtain ⟨e', he'⟩ := PyProof.Rows.sortedHeap_at (vs := acc.toList) (out := (PySem.W.sortVals (PySem.W.dataKind (PySem.W.sortingHeap (h'.push (seqObj "list" acc.toList.toArray 0)) h'.objs.size acc.toList) (ks.map toD)) false acc.toList acc.toList).toArray) hoL
    have lw : Ws.length ≤ sizeLine := by
      rw [rr.length]
      rw [List.length_mergeSort]
      exact fit_of k2
    refine wpAny_pure ⟨_, rfl, .ref h'.objs.size, upd H h'.objs.size (.lst Ws), I1.laid (t' := tk) (fun b u e => ?_) (Nat.le_refl _) ⟨lw, _, e', rw', he'⟩, rfl, q Ws _ rr (I1.hok.fresh (Nat.le_refl _))⟩
    have hb : b < h'.objs.size := Heap.lt_size e
    rw [PyProof.Rows.sortedHeap_old (Nat.ne_of_lt hb) (by rw [size_push']; exact Nat.lt_succ_of_lt hb)]
    exact Heap.get?_push_of_some _ e
end
/-- sorted(p), p a dict's place -/
def aSortD (f : Ep) : Ea := fun s => (f s).bind fun p s1 => match s1.dicAt p with
  | some d => if srtOk d.1 = true then .ok (sortT d.1) s1 else .no
  | none => .no
section
variable {X : Cx} {pos p : Pos} {e : Expr} {fp : Ep}
theorem ff_sortD (hc : X.calm = true) (hu : X.A.units + 103 < cLine) (hg : Gl X "sorted") (hm : X.mg "sorted" = none) (hq : FP X e fp) (he : starEach (e :: []) X.env = (false, eval e X.env) :: starEach [] X.env := by rfl) : FF X (.Call (.Name "sorted" p) [e] [] pos) (aSortD fp) :=
  pe_mono (pe_callB (cr_sortD hc hu) hg hm (by decide +kernel) (pa_cons hq pa_nil he) (by decide) (by decide) he (by rfl)) fun σ H Q ⟨b, g, s, v, s', m, e, q⟩ => by
    obtain ⟨p, s1, e1, e⟩ := bind_ok e
    split at e
    · rename_i d hd
      split at e
      · rename_i c
        cases e
        exact ⟨b, g, s, p, _, m, e1, fun g' H' a m' t' pa => ⟨g', a, d.1, d.2, rfl, (m'.at pa (dicAt_at hd)).1, c, fun Vs p rr hp => q _ _ Vs p (m'.hide hp trivial) (t'.trans (step_new hp)) (rr.step (step_new hp)) (m'.hidn' hp)⟩⟩
      · cases e
    · cases e
end
end L2.Z
set_option Elab.async false
set_option linter.all false
set_option maxRecDepth 100000
set_option maxHeartbeats 2000000
namespace L2.Z
open PySem PySem.Spec PyProof.Rows
def chT (z : Str) : List T := z.cps.toList.map fun c => .str ⟨#[c]⟩
def iStrZ (f : Ev) : Ea := fun s => (f s).bind fun t s1 => match t with
  | .str z => if z.length ≤ 16777216 then .ok (chT z) s1 else .no
  | _ => .no
def zipT (xs ys : List T) : List T := (xs.zip ys).map fun p => .pr [p.1, p.2]
def iZipZ (f : Ea) : Ea := fun s => (f s).bind fun ts s1 => match ts with
  | [.lst xs, .lst ys] => .ok (zipT xs ys) s1
  | [.tup xs, .tup ys] => .ok (zipT xs ys) s1
  | _ => .no
def enumT (k : Nat) : List T → List T
  | [] => []
  | t :: ts => .pr [.int k, t] :: enumT (k + 1) ts
def iEnumL (f : Ea) : Ea := fun s => (f s).bind fun ts s1 => match ts with
  | [.lst xs] => .ok (enumT 0 xs) s1
  | _ => .no
theorem enumT_length : ∀ (k : Nat) (ts : List T), (enumT k ts).length = ts.length
  | _, [] => rfl
  | k, t :: ts => by rw [enumT, List.length_cons, enumT_length (k + 1) ts, List.length_cons]
theorem enumT_get : ∀ (k : Nat) (ts : List T) (i : Nat) (x : T), (enumT k ts)[i]? = some x → ∃ t, ts[i]? = some t ∧ x = .pr [.int ((k + i : Nat) : Int), t]
  | k, [], i, x, h => by simp [enumT] at h
  | k, t :: ts, 0, x, h => by
    rw [enumT] at h
    simp at h
    exact ⟨t, rfl, h.symm⟩
  | k, t :: ts, i + 1, x, h => by
    rw [enumT] at h
    obtain ⟨t', h1, h2⟩ := enumT_get (k + 1) ts i x (by simpa using h)
    exact ⟨t', by simpa using h1, by rw [h2]; congr 3; omega⟩
section
variable {K : Kx} {g : G} {H : Hp}
theorem itOk_str {z : Str} : ItOk K g H (Its z) (chT z) := fun g1 H1 t => by
  refine ⟨fun i x hx => ?_, by simp [chT, Its]⟩
  unfold chT at hx
  rw [List.getElem?_map] at hx
  cases q : z.cps.toList[i]? with
  | none => rw [q] at hx; cases hx
  | some c =>
    rw [q] at hx
    cases hx
    have q2 : z.cps[i]? = some c := by rw [← Array.getElem?_toList]; exact q
    refine ⟨(Array.getElem?_eq_some_iff.mp q2).1, ?_⟩
    rintro y H2 ⟨rfl, c', h1, rfl⟩
    rw [q2] at h1
    cases h1
    exact ⟨Ext.refl _, .str _⟩
theorem zipT_get {xs ys : List T} {i : Nat} {x : T} (h : (zipT xs ys)[i]? = some x) : ∃ a b, xs[i]? = some a ∧ ys[i]? = some b ∧ x = .pr [a, b] := by
  unfold zipT at h
  rw [List.getElem?_map] at h
  cases q : (xs.zip ys)[i]? with
  | none => rw [q] at h; cases h
  | some p =>
    rw [q] at h
    cases h
    obtain ⟨h1, h2⟩ := List.getElem?_zip_eq_some.mp q
    exact ⟨_, _, h1, h2, rfl⟩
theorem zipT_length (xs ys : List T) : (zipT xs ys).length = min xs.length ys.length := by
  unfold zipT
  rw [List.length_map, List.length_zip]
theorem tup2 {H2 : Hp} {p : Addr} {x y : V} {a b : T} (h : H2 p = some (.tup [x, y])) (r1 : Rep K g H2 x a) (r2 : Rep K g H2 y b) : Rep K g H2 (.ref p) (.pr [a, b]) := .pr (SqT.of h) (.cons r1 (.cons r2 .nil))
theorem itOk_zipL {a b : Addr} {xs ys : List T} (r1 : Rep K g H (.ref a) (.lst xs)) (r2 : Rep K g H (.ref b) (.lst ys)) : ItOk K g H (Itz K.K a b) (zipT xs ys) := fun g1 H1 t => by
  obtain ⟨a', us, ea, h1, q1⟩ := rep_lst (r1.step t)
  cases ea
  obtain ⟨b', ws, eb, h2, q2⟩ := rep_lst (r2.step t)
  cases eb
  refine ⟨fun i x hx => ?_, us, ws, h1, h2, ?_⟩
  · obtain ⟨x1, x2, e1, e2, rfl⟩ := zipT_get hx
    obtain ⟨v1, f1, s1⟩ := q1.get e1
    obtain ⟨v2, f2, s2⟩ := q2.get e2
    refine ⟨⟨us, ws, v1, v2, h1, h2, f1, f2⟩, ?_⟩
    rintro y H2 ⟨p, y1, y2, rfl, hp, rfl, k1, k2⟩
    have z1 := k1 us h1
    have z2 := k2 ws h2
    rw [f1] at z1
    rw [f2] at z2
    cases z1
    cases z2
    have x : Ext H1 (upd H1 p (.tup [v1, v2])) := Ext.new hp
    exact ⟨x, tup2 upd_same (s1.step (Step.ext x)) (s2.step (Step.ext x))⟩
  · rw [zipT_length, q1.length, q2.length]
    omega
theorem itOk_zipT {a b : Addr} {xs ys : List T} (r1 : Rep K g H (.ref a) (.tup xs)) (r2 : Rep K g H (.ref b) (.tup ys)) : ItOk K g H (RZ.ItzT K.K a b) (zipT xs ys) := fun g1 H1 t => by
  obtain ⟨a', us, ea, h1, q1⟩ := rep_tup (r1.step t)
  cases ea
  obtain ⟨b', ws, eb, h2, q2⟩ := rep_tup (r2.step t)
  cases eb
  refine ⟨fun i x hx => ?_, us, ws, h1, h2, ?_⟩
  · obtain ⟨x1, x2, e1, e2, rfl⟩ := zipT_get hx
    obtain ⟨v1, f1, s1⟩ := q1.get e1
    obtain ⟨v2, f2, s2⟩ := q2.get e2
    refine ⟨⟨us, ws, v1, v2, h1, h2, f1, f2⟩, ?_⟩
    rintro y H2 ⟨p, y1, y2, rfl, hp, rfl, k1, k2⟩
    have z1 := k1 us h1
    have z2 := k2 ws h2
    rw [f1] at z1
    rw [f2] at z2
    cases z1
    cases z2
    have x : Ext H1 (upd H1 p (.tup [v1, v2])) := Ext.new hp
    exact ⟨x, tup2 upd_same (s1.step (Step.ext x)) (s2.step (Step.ext x))⟩
  · rw [zipT_length, q1.length, q2.length]
    omega
theorem itOk_enumL {a : Addr} {xs : List T} (r1 : Rep K g H (.ref a) (.lst xs)) : ItOk K g H (Ite K.K a) (enumT 0 xs) := fun g1 H1 t => by
  obtain ⟨a', us, ea, h1, q1⟩ := rep_lst (r1.step t)
  cases ea
  refine ⟨fun i x hx => ?_, us, h1, by rw [enumT_length, q1.length]; exact Nat.le_refl _⟩
  obtain ⟨x1, e1, rfl⟩ := enumT_get 0 xs i x hx
  obtain ⟨v1, f1, s1⟩ := q1.get e1
  refine ⟨⟨us, v1, h1, f1⟩, ?_⟩
  rintro y H2 ⟨p, y1, rfl, hp, rfl, k1⟩
  have z1 := k1 us h1
  rw [f1] at z1
  cases z1
  have x : Ext H1 (upd H1 p (.tup [.int i, v1])) := Ext.new hp
  rw [Nat.zero_add]
  exact ⟨x, tup2 upd_same (.int _) (s1.step (Step.ext x))⟩
end
section
variable {X : Cx} {tg e e2 : Expr} {f : Ev} {fa : Ea} {p pos tpos apos cpos : Pos} {elts : List Expr} {kk : Nat}
theorem fi_str (he : FE X e f) : FI X tg e (iStrZ f) := pi_mono (pi_str he) fun σ H Rr ⟨b, g, s, vs, s', m, e, k⟩ => by
  obtain ⟨t, s1, e1, e⟩ := bind_ok e
  cases t with
  | str z =>
    have e : (if z.length ≤ 16777216 then R.ok (chT z) s1 else .no) = .ok vs s' := e
    split at e
    · rename_i l
      cases e
      exact ⟨b, g, s, _, _, m, e1, fun g1 H1 V m1 t1 r1 => ⟨z, rep_str r1, k g1 H1 _ m1 t1 itOk_str (by unfold chT; rw [List.length_map]; exact fit_of l)⟩⟩
    · cases e
  | _ => cases e
theorem fi_zip (hg : Gl X "zip") (hm : X.mg "zip" = none) (ha : FA X [e, e2] fa) (hs : starEach [e, e2] X.env = (false, eval e X.env) :: starEach [e2] X.env := by rfl) (hpl : (backTo pos (starEach [e2] X.env)).any (·.1) = false := by rfl) :
    FI X (.Tuple elts kk tpos) (.Call (.Name "zip" p) [e, e2] [] pos) (iZipZ fa) := pi_mono (pi_fit (RZ.pi_zipA hg hm ha hs hpl)) fun σ H Rr ⟨b, g, s, vs, s', m, e, k⟩ => by
  obtain ⟨ts, s1, e1, e⟩ := bind_ok e
  split at e
  · rename_i xs ys
    cases e
    refine ⟨b, g, s, _, _, m, e1, fun g1 H1 Vs m1 t1 r1 => ?_⟩
    obtain ⟨v, w, rfl, r, r'⟩ := repL_two r1
    obtain ⟨a, us, rfl, h1, q1⟩ := rep_lst r
    obtain ⟨a2, us2, rfl, h2, q2⟩ := rep_lst r'
    exact ⟨a, a2, us, us2, rfl, .inl ⟨h1, h2, fun z _ => k g1 H1 _ m1 t1 (itOk_zipL r r') (by have := z _ _ h1; rw [zipT_length, ← q1.length]; omega)⟩⟩
  · rename_i xs ys
    cases e
    refine ⟨b, g, s, _, _, m, e1, fun g1 H1 Vs m1 t1 r1 => ?_⟩
    obtain ⟨v, w, rfl, r, r'⟩ := repL_two r1
    obtain ⟨a, us, rfl, h1, q1⟩ := rep_tup r
    obtain ⟨a2, us2, rfl, h2, q2⟩ := rep_tup r'
    exact ⟨a, a2, us, us2, rfl, .inr ⟨h1, h2, fun _ z => k g1 H1 _ m1 t1 (itOk_zipT r r') (by have := z _ _ h1; rw [zipT_length, ← q1.length]; omega)⟩⟩
  · cases e
theorem fi_enumL (hg : Gl X "enumerate") (hm : X.mg "enumerate" = none) (ha : FA X [e] fa) (hs : starEach [e] X.env = [(false, eval e X.env)] := by rfl) : FI X (.Tuple elts kk tpos) (.Call (.Name "enumerate" p) [e] [] pos) (iEnumL fa) :=
  pi_mono (pi_fit (pi_enum hg hm ha hs)) fun σ H Rr ⟨b, g, s, vs, s', m, e, k⟩ => by
    obtain ⟨ts, s1, e1, e⟩ := bind_ok e
    split at e
    · rename_i xs
      cases e
      refine ⟨b, g, s, _, _, m, e1, fun g1 H1 Vs m1 t1 r1 => ?_⟩
      obtain ⟨v, rfl, r⟩ := repL_one r1
      obtain ⟨a, us, rfl, h1, q1⟩ := rep_lst r
      exact ⟨a, us, rfl, h1, fun z _ => k g1 H1 _ m1 t1 (itOk_enumL r) (by have := z _ _ h1; rw [enumT_length, ← q1.length]; exact this)⟩
    · cases e
end
end L2.Z
set_option Elab.async false
set_option linter.all false
set_option maxRecDepth 100000
set_option maxHeartbeats 2000000
namespace L2.Z
open PySem PySem.Spec PyProof.Rows
section
variable {prog : Program} {w : World} {A : Around} {E : Value → Shared → Prop} {s : Shared}
end
section
variable {X : Cx} {e : Expr} {ta : TA} {fa : Ea} {p pos tpos : Pos} {elts : List Expr} {kk : Nat}
end
end L2.Z
set_option Elab.async false
set_option linter.all false
set_option maxRecDepth 100000
set_option maxHeartbeats 2000000
namespace L2.Z
open PySem PySem.Spec PyProof.Rows
section
variable {prog : Program} {w : World} {A : Around} {E : Value → Shared → Prop} {s : Shared}
theorem drawn_item {it l : Addr} {i : Nat} {items : Array Value} {x : Value} {Q : Option Value → Shared → Prop} (hit : s.heap.IsTupleIter it l i) (hl : s.heap.IsTuple l items) (hx : items[i]? = some x) (hQ : ∀ h', h'.IsTupleIter it l (i + 1) → Heap.SameBut it s.heap h' → Q (some x) { s with heap := h' }) :
    wpAny (model prog w) A (Builtin.SmallTypes.nextOrEnd (.ref it)) Q E s := by
  unfold Builtin.SmallTypes.nextOrEnd
  exact wpAny_bind (wpAny_attempt (RZ.nextOf_tuple_item hit hl hx fun h' a b => wpAny_pure (hQ h' a b)))
theorem drawn_end {it l : Addr} {i : Nat} {items : Array Value} {Q : Option Value → Shared → Prop} (hh : A.handled = none) (hit : s.heap.IsTupleIter it l i) (hl : s.heap.IsTuple l items) (hx : items[i]? = none) (hQ : ∀ h', Heap.ExtBut it s.heap h' → Q none { s with heap := h' }) :
    wpAny (model prog w) A (Builtin.SmallTypes.nextOrEnd (.ref it)) Q E s := by
  unfold Builtin.SmallTypes.nextOrEnd
  refine wpAny_bind (wpAny_attempt (RZ.nextOf_tuple_end hh hit hl hx fun h' e xb ⟨o, ho, hc⟩ => ?_))
  refine wpAny_bind (wpAny_isInstance (T := "StopIteration") (b := true) ⟨o, ho, hc⟩ isSubtype_stop ?_)
  exact wpAny_pure (hQ h' xb)
/-- a strict zip object -/
abbrev IsZipS (h : Heap) (z TI TO : Addr) (f0 : Value) : Prop := h.get? z = some { cls := .type "zip", dict := none, data := .fields #[f0, .bool false, .bool true, .ref TI, .ref TO], slots := #[] }
theorem zipS_item {z TI TO i1 i2 l1 l2 : Addr} {k1 k2 : Nat} {xs ys : Array Value} {x y a b : Value} {Q : Value → Shared → Prop} (D : ZipApart z TI TO i1 i2 l1 l2) (hz : IsZipS s.heap z TI TO .none) (hTI : IsPair s.heap TI (.ref i1) (.ref i2)) (hTO : IsPair s.heap TO a b)
    (h1 : s.heap.IsTupleIter i1 l1 k1) (h2 : s.heap.IsTupleIter i2 l2 k2) (hl1 : s.heap.IsTuple l1 xs) (hl2 : s.heap.IsTuple l2 ys) (hx : xs[k1]? = some x) (hy : ys[k2]? = some y)
    (hQ : ∀ h', IsZipS h' z TI TO (rawInt s.heap.objs.size) → IsPair h' TO x y → h'.IsTupleIter i1 l1 (k1 + 1) → h'.IsTupleIter i2 l2 (k2 + 1) → IsPair h' s.heap.objs.size x y → (∀ c o, c ≠ z → c ≠ TO → c ≠ i1 → c ≠ i2 → s.heap.get? c = some o → h'.get? c = some o) → Q (.ref s.heap.objs.size) { s with heap := h' }) :
    wpAny (model prog w) A (Builtin.«zip.__next__» ⟨[.ref z], []⟩) (fun fin s' => ∃ v, fin = .done (.ret v) ∧ Q v s') E s := by
  show wpAny _ _ (field (.ref z) 2 >>= _) _ _ s
  refine wpAny_bind (wpAny_field hz rfl (x := .bool true) rfl ?_)
  show wpAny _ _ (field (.ref z) 3 >>= _) _ _ s
  refine wpAny_bind (wpAny_field hz rfl (x := .ref TI) rfl (wpAny_bind (wpAny_seqItems hTI rfl ?_)))
  show wpAny _ _ (Builtin.SmallTypes.ownedTupleIsFree (.ref z) >>= _) _ _ s
  refine wpAny_bind ?_
  unfold Builtin.SmallTypes.ownedTupleIsFree
  refine wpAny_bind (wpAny_field hz rfl (x := .none) rfl (wpAny_pure ?_))
  simp only [if_true]
  refine wpAny_bind (wpAny_rule (wpAny_bind (wpAny_field hz rfl (x := .ref TO) rfl (wpAny_bind (wpAny_setField_rec hz (by simp) fun g1 hz1 e1 => ?_)))))
  replace hz1 : IsZipS g1 z TI TO .ellipsis := hz1
  refine wpAny_bind ?_
  simp only [List.zipIdx_cons, List.zipIdx_nil, List.forIn_cons, List.forIn_nil]
  refine wpAny_bind (wpAny_bind (wpAny_onRaise ?_))
  show wpAny _ _ (Builtin.SmallTypes.nextOrEnd (.ref i1)) _ _ _
  refine drawn_item (h1.extBut e1.extBut D.i1z) (hl1.extBut e1.extBut D.l1z) hx fun g2 a2 e2 => ?_
  have t2 : IsPair g2 TO a b := e2.extBut _ _ D.TOi1 (e1.extBut _ _ D.TOz hTO)
  refine wpAny_bind (wpAny_seqItems t2 rfl (wpAny_bind (wpAny_updateSeq_pair t2 fun g3 t3 e3 => ?_)))
  replace t3 : IsPair g3 TO x b := t3
  refine wpAny_bind (wpAny_letGo (wpAny_pure (wpAny_bind (wpAny_bind (wpAny_onRaise ?_)))))
  show wpAny _ _ (Builtin.SmallTypes.nextOrEnd (.ref i2)) _ _ _
  refine drawn_item (((h2.extBut e1.extBut D.i2z).extBut e2.extBut D.i12.symm).extBut e3.extBut D.TOi2.symm) (((hl2.extBut e1.extBut D.l2z).extBut e2.extBut D.l2i1).extBut e3.extBut D.l2TO) hy fun g4 b4 e4 => ?_
  have t4 : IsPair g4 TO x b := e4.extBut _ _ D.TOi2 t3
  refine wpAny_bind (wpAny_seqItems t4 rfl (wpAny_bind (wpAny_updateSeq_pair t4 fun g5 t5 e5 => ?_)))
  replace t5 : IsPair g5 TO x y := t5
  refine wpAny_bind (wpAny_letGo (wpAny_pure (wpAny_pure (wpAny_bind (wpAny_seqItems t5 rfl (wpAny_bind (wpAny_newTuple ?_)))))))
  have n5 : g5.objs.size = s.heap.objs.size := by rw [e5.1, e4.1, e3.1, e2.1, e1.1]
  have z5 : IsZipS g5 z TI TO .ellipsis := e5.extBut _ _ D.TOz.symm (e4.extBut _ _ D.i2z.symm (e3.extBut _ _ D.TOz.symm (e2.extBut _ _ D.i1z.symm hz1)))
  have k5 : ∀ c o, c ≠ z → c ≠ TO → c ≠ i1 → c ≠ i2 → s.heap.get? c = some o → g5.get? c = some o := fun c o q1 q2 q3 q4 e => e5.extBut _ _ q2 (e4.extBut _ _ q4 (e3.extBut _ _ q2 (e2.extBut _ _ q3 (e1.extBut _ _ q1 e))))
  have a5 : g5.IsTupleIter i1 l1 (k1 + 1) := ((a2.extBut e3.extBut D.TOi1.symm).extBut e4.extBut D.i12).extBut e5.extBut D.TOi1.symm
  have b5 : g5.IsTupleIter i2 l2 (k2 + 1) := b4.extBut e5.extBut D.TOi2.symm
  have lz : z < g5.objs.size := Heap.lt_size z5
  show wpAny _ _ (Builtin.SmallTypes.ownedTupleHandOut (.ref z) (.ref g5.objs.size) >>= _) _ _ _
  refine wpAny_bind ?_
  unfold Builtin.SmallTypes.ownedTupleHandOut
  have z6 : IsZipS (g5.push { cls := .type "tuple", data := .seq #[x, y] }) z TI TO .ellipsis := Heap.get?_push_of_some _ z5
  refine wpAny_bind (wpAny_setField_rec z6 (by simp) fun g7 z7 e7 => ?_)
  replace z7 : IsZipS g7 z TI TO (rawInt g5.objs.size) := z7
  refine wpAny_setField_rec z7 (by simp) fun g8 z8 e8 => ?_
  replace z8 : IsZipS g8 z TI TO (rawInt g5.objs.size) := z8
  have up : ∀ c o, c ≠ z → g5.get? c = some o → g8.get? c = some o := fun c o q e => e8.extBut _ _ q (e7.extBut _ _ q (Heap.get?_push_of_some _ e))
  have T8 : IsPair g8 g5.objs.size x y := e8.extBut _ _ (Nat.ne_of_gt lz) (e7.extBut _ _ (Nat.ne_of_gt lz) (Heap.get?_push_size _ rfl))
  rw [n5] at z8 T8
  refine wpAny_pure ⟨_, rfl, ?_⟩
  show Q (.ref g5.objs.size) _
  rw [n5]
  exact hQ g8 z8 (up _ _ D.TOz t5) (a5.at fun o e => up _ o D.i1z e) (b5.at fun o e => up _ o D.i2z e) T8 fun c o q1 q2 q3 q4 e => up c o q1 (k5 c o q1 q2 q3 q4 e)
theorem zipS_end {z TI TO i1 i2 l1 l2 : Addr} {k1 k2 : Nat} {xs ys : Array Value} {a b : Value} {Q : Fin → Shared → Prop} (hh : A.handled = none) (D : ZipApart z TI TO i1 i2 l1 l2) (hz : IsZipS s.heap z TI TO .none) (hTI : IsPair s.heap TI (.ref i1) (.ref i2)) (hTO : IsPair s.heap TO a b)
    (h1 : s.heap.IsTupleIter i1 l1 k1) (h2 : s.heap.IsTupleIter i2 l2 k2) (hl1 : s.heap.IsTuple l1 xs) (hl2 : s.heap.IsTuple l2 ys) (hx : xs[k1]? = none) (hy : ys[k2]? = none)
    (hE : ∀ h' e, (∀ c o, c ≠ z → c ≠ TO → c ≠ i1 → c ≠ i2 → s.heap.get? c = some o → h'.get? c = some o) → (∃ o, h'.get? e = some o ∧ o.cls = .type "StopIteration") → E (.ref e) { s with heap := h' }) :
    wpAny (model prog w) A (Builtin.«zip.__next__» ⟨[.ref z], []⟩) Q E s := by
  show wpAny _ _ (field (.ref z) 2 >>= _) _ _ s
  refine wpAny_bind (wpAny_field hz rfl (x := .bool true) rfl ?_)
  show wpAny _ _ (field (.ref z) 3 >>= _) _ _ s
  refine wpAny_bind (wpAny_field hz rfl (x := .ref TI) rfl (wpAny_bind (wpAny_seqItems hTI rfl ?_)))
  show wpAny _ _ (Builtin.SmallTypes.ownedTupleIsFree (.ref z) >>= _) _ _ s
  refine wpAny_bind ?_
  unfold Builtin.SmallTypes.ownedTupleIsFree
  refine wpAny_bind (wpAny_field hz rfl (x := .none) rfl (wpAny_pure ?_))
  simp only [if_true]
  refine wpAny_bind (wpAny_rule (wpAny_bind (wpAny_field hz rfl (x := .ref TO) rfl (wpAny_bind (wpAny_setField_rec hz (by simp) fun g1 hz1 e1 => ?_)))))
  replace hz1 : IsZipS g1 z TI TO .ellipsis := hz1
  refine wpAny_bind ?_
  simp only [List.zipIdx_cons, List.zipIdx_nil, List.forIn_cons, List.forIn_nil]
  refine wpAny_bind (wpAny_bind (wpAny_onRaise ?_))
  show wpAny _ _ (Builtin.SmallTypes.nextOrEnd (.ref i1)) _ _ _
  refine drawn_end hh (h1.extBut e1.extBut D.i1z) (hl1.extBut e1.extBut D.l1z) hx fun g2 e2 => ?_
  have z2 : IsZipS g2 z TI TO .ellipsis := e2 _ _ D.i1z.symm hz1
  refine wpAny_bind (wpAny_setField_rec z2 (by simp) fun g3 z3 e3 => ?_)
  replace e3 : Heap.SameBut z g2 g3 := e3
  refine wpAny_bind ?_
  show wpAny _ _ (forIn (m := Sem) [((.ref i2 : Value), 1)] _ _ >>= _) _ _ _
  refine wpAny_bind ?_
  rw [List.forIn_cons]
  refine wpAny_bind ?_
  show wpAny _ _ (Builtin.SmallTypes.nextOrEnd (.ref i2) >>= _) _ _ _
  have up3 : ∀ c o, c ≠ z → c ≠ i1 → s.heap.get? c = some o → g3.get? c = some o := fun c o q1 q2 e => e3.extBut _ _ q1 (e2 _ _ q2 (e1.extBut _ _ q1 e))
  refine wpAny_bind (drawn_end hh (h2.at fun o e => up3 i2 o D.i2z D.i12.symm e) (let ⟨o, ho, r⟩ := hl2; ⟨o, up3 l2 o D.l2z D.l2i1 ho, r⟩) hy fun g4 e4 => ?_)
  show wpAny _ _ (pure (ForInStep.yield PUnit.unit)) _ _ _
  refine wpAny_pure ?_
  show wpAny _ _ (forIn (m := Sem) ([] : List (Value × Nat)) _ _) _ _ _
  rw [List.forIn_nil]
  refine wpAny_pure (wpAny_bind (wpAny_rule ?_))
  unfold Builtin.SmallTypes.stopIteration
  refine wpAny_bind ?_
  simp only [newExc, newTuple]
  refine wpAny_bind (wpAny_newObj_type (wpAny_bind (m := firstArgMember _ _) (wpAny_of_eq (a := Value.none) (by first | rfl | (simp only [firstArgMember]; rfl)) (wpAny_newObj_type ?_ (by size_fits)))) (by size_fits))
  unfold raiseNew
  refine wpAny_bind (wpAny_handled ?_)
  rw [hh]
  refine wpAny_bind (wpAny_pure (wpAny_throw (hE _ _ (fun c o q1 q2 q3 q4 e => ?_) ⟨_, Heap.get?_push_size _ rfl, rfl⟩)))
  exact Heap.get?_push_of_some _ (Heap.get?_push_of_some _ (e4 _ _ q4 (up3 c o q1 q3 e)))
theorem nextS_item {z TI TO i1 i2 l1 l2 : Addr} {k1 k2 : Nat} {xs ys : Array Value} {x y a b : Value} {Q : Option Value → Shared → Prop} (D : ZipApart z TI TO i1 i2 l1 l2) (hz : IsZipS s.heap z TI TO .none) (hTI : IsPair s.heap TI (.ref i1) (.ref i2)) (hTO : IsPair s.heap TO a b)
    (h1 : s.heap.IsTupleIter i1 l1 k1) (h2 : s.heap.IsTupleIter i2 l2 k2) (hl1 : s.heap.IsTuple l1 xs) (hl2 : s.heap.IsTuple l2 ys) (hx : xs[k1]? = some x) (hy : ys[k2]? = some y)
    (hQ : ∀ h', IsZipS h' z TI TO (rawInt s.heap.objs.size) → IsPair h' TO x y → h'.IsTupleIter i1 l1 (k1 + 1) → h'.IsTupleIter i2 l2 (k2 + 1) → IsPair h' s.heap.objs.size x y → (∀ c o, c ≠ z → c ≠ TO → c ≠ i1 → c ≠ i2 → s.heap.get? c = some o → h'.get? c = some o) → Q (some (.ref s.heap.objs.size)) { s with heap := h' }) : wpAny (model prog w) A (pyNext (.ref z)) Q E s := by
  have hT : s.TypeIs (.ref z) "zip" := ⟨_, hz, rfl⟩
  unfold pyNext
  exact wpAny_bind (wpAny_attempt (wpAny_callSpecial?_slot (name := Str.ofString "__next__") hT F.slot_zip_next (wpAny_call_entry F.slot_zip_next hT F.entry_zip_next (zipS_item D hz hTI hTO h1 h2 hl1 hl2 hx hy fun h' a1 a2 a3 a4 a5 a6 => wpAny_pure (hQ h' a1 a2 a3 a4 a5 a6)) (F.args_zip_next_1 _))))
theorem nextS_end {z TI TO i1 i2 l1 l2 : Addr} {k1 k2 : Nat} {xs ys : Array Value} {a b : Value} {Q : Option Value → Shared → Prop} (hh : A.handled = none) (D : ZipApart z TI TO i1 i2 l1 l2) (hz : IsZipS s.heap z TI TO .none) (hTI : IsPair s.heap TI (.ref i1) (.ref i2)) (hTO : IsPair s.heap TO a b)
    (h1 : s.heap.IsTupleIter i1 l1 k1) (h2 : s.heap.IsTupleIter i2 l2 k2) (hl1 : s.heap.IsTuple l1 xs) (hl2 : s.heap.IsTuple l2 ys) (hx : xs[k1]? = none) (hy : ys[k2]? = none)
    (hQ : ∀ h', (∀ c o, c ≠ z → c ≠ TO → c ≠ i1 → c ≠ i2 → s.heap.get? c = some o → h'.get? c = some o) → Q none { s with heap := h' }) : wpAny (model prog w) A (pyNext (.ref z)) Q E s := by
  have hT : s.TypeIs (.ref z) "zip" := ⟨_, hz, rfl⟩
  unfold pyNext
  refine wpAny_bind (wpAny_attempt (wpAny_callSpecial?_slot (name := Str.ofString "__next__") hT F.slot_zip_next (wpAny_call_entry F.slot_zip_next hT F.entry_zip_next (zipS_end hh D hz hTI hTO h1 h2 hl1 hl2 hx hy fun h' e hk ⟨o, ho, hc⟩ => ?_) (F.args_zip_next_1 _))))
  exact wpAny_bind (wpAny_isInstance (T := "StopIteration") (b := true) ⟨o, ho, hc⟩ isSubtype_stop (wpAny_pure (hQ _ hk)))
theorem goS {elts : List Expr} {x1} {pos : Pos} {z TI TO p : Addr} {Q : Unit → Shared → Prop} (hz : IsZipS s.heap z TI TO (rawInt p)) (hQ : ∀ h', IsZipS h' z TI TO .none → Heap.SameBut z s.heap h' → Q () { s with heap := h' }) : wpAny (model prog w) A (letOwnedTupleGo (.Tuple elts x1 pos) (.ref z) (.ref p)) Q E s := by
  unfold letOwnedTupleGo
  refine wpAny_bind (wpAny_load hz ?_)
  show wpAny _ _ (if (_ && (#[rawInt p, .bool false, .bool true, .ref TI, .ref TO] : Array Value)[0]? == some (rawInt p)) = true then _ else _) Q E s
  rw [if_pos (by simp)]
  refine wpAny_bind (wpAny_rule ?_)
  exact wpAny_setField_rec hz (by simp) fun h' hz' hs' => hQ h' hz' hs'
theorem iterS {z TI TO : Addr} {f0 : Value} {Q : Value → Shared → Prop} (hz : IsZipS s.heap z TI TO f0) (h : Q (.ref z) s) : wpAny (model prog w) A (pyIter (.ref z)) Q E s := by
  have hT : s.TypeIs (.ref z) "zip" := ⟨_, hz, rfl⟩
  refine wpAny_pyIter_slot hT F.slot_zip_iter (wpAny_call_entry F.slot_zip_iter hT F.entry_zip_iter ?_ (F.args_zip_iter_1 _))
  exact wpAny_pure ⟨_, rfl, "zip", _, hT, F.slot_zip_next.lookup, h⟩
end
theorem tc_zipS (a b : Value) : checkTypeCall "zip" ⟨[a, b], [(Str.ofString "strict", .bool true)]⟩ = pure () := by kernel_rfl
theorem nc_zipS (a b : Value) : checkBuiltinCall "zip.__new__" ⟨[.type "zip", a, b], [(Str.ofString "strict", .bool true)]⟩ = pure () := by kernel_rfl
theorem oi_zipS (o a b : Value) : argsOk "object.__init__" ⟨[o, a, b], [(Str.ofString "strict", .bool true)]⟩ := by unfold argsOk; kernel_rfl
abbrev zs1 (h : Heap) (l1 : Addr) : Heap := h.push { cls := .type "tuple_iterator", data := .fields #[.ref l1, .int 0 0] }
abbrev zs2 (h : Heap) (l1 l2 : Addr) : Heap := (zs1 h l1).push { cls := .type "tuple_iterator", data := .fields #[.ref l2, .int 0 0] }
abbrev zs3 (h : Heap) (l1 l2 : Addr) : Heap := (zs2 h l1 l2).push { cls := .type "tuple", data := .seq #[.ref h.objs.size, .ref (zs1 h l1).objs.size] }
abbrev zs4 (h : Heap) (l1 l2 : Addr) : Heap := (zs3 h l1 l2).push { cls := .type "tuple", data := .seq #[.none, .none] }
abbrev zs5 (h : Heap) (l1 l2 : Addr) : Heap := (zs4 h l1 l2).push { cls := .type "zip", data := .fields #[.none, .bool false, .bool true, .ref (zs2 h l1 l2).objs.size, .ref (zs3 h l1 l2).objs.size] }
theorem meets_zipS (l1 l2 : Addr) (xs ys : Array Value) : Meets (Builtin.«zip.__new__» ⟨[.type "zip", .ref l1, .ref l2], [(Str.ofString "strict", .bool true)]⟩) (fun _ R s => s.heap.IsTuple l1 xs ∧ s.heap.IsTuple l2 ys ∧ R (.ok (.ret (.ref (zs4 s.heap l1 l2).objs.size))) { s with heap := zs5 s.heap l1 l2 }) := .of_wp fun prog w A R s h => by
  obtain ⟨hp, gg, dr, tk, os⟩ := s
  obtain ⟨hl1, hl2, h⟩ := h
  have hsub := sub_zip
  have hL1 : Heap.IsTuple (Shared.heap ⟨hp, gg, dr, tk, os⟩) l1 xs := hl1
  have hL2 : Heap.IsTuple (Shared.heap ⟨hp.push { cls := .type "tuple_iterator", data := .fields #[.ref l1, .int 0 0] }, gg, dr, tk, os⟩) l2 ys := Heap.IsTuple.push hl2 _
  have e2 : (Str.ofString "strict" != ("strict" : Str)) = false := by decide +kernel
  wp_walk using wpAny_pyIter_tuple hL1, wpAny_pyIter_tuple hL2
  exact ⟨_, rfl, h⟩
end L2.Z
set_option Elab.async false
set_option linter.all false
set_option maxRecDepth 100000
set_option maxHeartbeats 2000000
namespace L2.Z
open PySem PySem.Spec PyProof.Rows
section
variable {prog : Program} {w : World} {A : Around} {E : Value → Shared → Prop} {s : Shared}
theorem call_zipS {l1 l2 : Addr} {xs ys : Array Value} {Q : Value → Shared → Prop} (hl1 : s.heap.IsTuple l1 xs) (hl2 : s.heap.IsTuple l2 ys)
    (h : ∀ h', IsZipS h' (s.heap.objs.size + 4) (s.heap.objs.size + 2) (s.heap.objs.size + 3) .none → IsPair h' (s.heap.objs.size + 2) (.ref s.heap.objs.size) (.ref (s.heap.objs.size + 1)) → IsPair h' (s.heap.objs.size + 3) .none .none → h'.IsTupleIter s.heap.objs.size l1 0 → h'.IsTupleIter (s.heap.objs.size + 1) l2 0 →
      (∀ c o, s.heap.get? c = some o → h'.get? c = some o) → Q (.ref (s.heap.objs.size + 4)) { s with heap := h' }) : wpAny (model prog w) A (call (.type "zip") [.ref l1, .ref l2] [(Str.ofString "strict", .bool true)]) Q E s := by
  refine callType_newKw F.called_zip (by decide) (tc_zipS _ _) (nc_zipS _ _) (fun o => oi_zipS o _ _) F.entry_zip_new (meets_zipS l1 l2 xs ys) ⟨hl1, hl2, ?_⟩
  have n1 : (zs1 s.heap l1).objs.size = s.heap.objs.size + 1 := Heap.size_push ..
  have n2 : (zs2 s.heap l1 l2).objs.size = s.heap.objs.size + 2 := by rw [Heap.size_push, n1]
  have n3 : (zs3 s.heap l1 l2).objs.size = s.heap.objs.size + 3 := by rw [Heap.size_push, n2]
  have n4 : (zs4 s.heap l1 l2).objs.size = s.heap.objs.size + 4 := by rw [Heap.size_push, n3]
  have p1 : ∀ {h : Heap} {o : Obj} {c : Addr} {u : Obj}, h.get? c = some u → (h.push o).get? c = some u := fun e => Heap.get?_push_of_some _ e
  have q5 : (zs5 s.heap l1 l2).get? (zs4 s.heap l1 l2).objs.size = some _ := Heap.get?_push_size _ rfl
  have q4 : (zs5 s.heap l1 l2).get? (zs3 s.heap l1 l2).objs.size = some _ := p1 (Heap.get?_push_size _ rfl)
  have q3 : (zs5 s.heap l1 l2).get? (zs2 s.heap l1 l2).objs.size = some _ := p1 (p1 (Heap.get?_push_size _ rfl))
  have q2 : (zs5 s.heap l1 l2).get? (zs1 s.heap l1).objs.size = some _ := p1 (p1 (p1 (Heap.get?_push_size _ rfl)))
  have q1 : (zs5 s.heap l1 l2).get? s.heap.objs.size = some _ := p1 (p1 (p1 (p1 (Heap.get?_push_size _ rfl))))
  rw [n2, n3, n4] at q5
  rw [n1, n2] at q3
  rw [n3] at q4
  rw [n1] at q2
  show _ ∧ _
  rw [n4]
  exact ⟨⟨_, q5, rfl⟩, h _ q5 q3 q4 ⟨_, q1, rfl, rfl⟩ ⟨_, q2, rfl, rfl⟩ fun c o x => p1 (p1 (p1 (p1 (p1 x))))⟩
end
/-- two tuples of one length, their items in new pairs -/
def ItZS (K : PySem.W.Frag) (a b : Addr) : It := ⟨fun i H => ∃ (xs ys : List V) (x y : V), SqT K H a xs ∧ SqT K H b ys ∧ xs[i]? = some x ∧ ys[i]? = some y,
    fun i H v H' => ∃ p x y, v = .ref p ∧ H p = none ∧ H' = upd H p (.tup [x, y]) ∧ (∀ xs, SqT K H a xs → xs[i]? = some x) ∧ ∀ ys, SqT K H b ys → ys[i]? = some y, fun i H => ∃ xs ys : List V, SqT K H a xs ∧ SqT K H b ys ∧ xs.length ≤ i ∧ ys.length ≤ i⟩
abbrev StS (z TI TO i1 i2 a b : Addr) (i : Nat) (h : Heap) : Prop := IsZipS h z TI TO .none ∧ IsPair h TI (.ref i1) (.ref i2) ∧ (∃ x y, IsPair h TO x y) ∧ h.IsTupleIter i1 a i ∧ h.IsTupleIter i2 b i
theorem of5 {z TI TO i1 i2 c : Addr} (h : c ∈ [z, TI, TO, i1, i2]) : c = z ∨ c = TI ∨ c = TO ∨ c = i1 ∨ c = i2 := by simpa using h
theorem turn_zipS {P : Program} {w : World} {K : PySem.W.Frag} {elts : List Expr} {kk : Nat} {tpos : Pos} {a b z TI TO i1 i2 : Addr} (D : ZipApart z TI TO i1 i2 a b) : Turn P w K (.Tuple elts kk tpos) (ItZS K a b) [z, TI, TO, i1, i2] z (StS z TI TO i1 i2 a b) where
  mem := by simp
  obj := fun i h ⟨e1, e2, ⟨x, y, e3⟩, ⟨o4, e4, _, d4⟩, o5, e5, _, d5⟩ c hc => by
    rcases of5 hc with q | q | q | q | q <;> rw [q]
    · exact ⟨_, e1, fun v q => nomatch q⟩
    · exact ⟨_, e2, fun v q => nomatch q⟩
    · exact ⟨_, e3, fun v q => nomatch q⟩
    · exact ⟨o4, e4, fun v q => by rw [d4] at q; cases q⟩
    · exact ⟨o5, e5, fun v q => by rw [d5] at q; cases q⟩
  keep := fun i h h' ⟨e1, e2, ⟨x, y, e3⟩, e4, e5⟩ k => ⟨k z (by simp) _ e1, k TI (by simp) _ e2, ⟨x, y, k TO (by simp) _ e3⟩, e4.at fun o q => k i1 (by simp) o q, e5.at fun o q => k i2 (by simp) o q⟩
  item := by
    intro X hP hw hK hc i pins s σ H E I hf ⟨hz, hTI, ⟨x0, y0, hTO⟩, h1, h2⟩ ⟨xs, ys, x, y, hqx, hqy, hx, hy⟩
    subst hP hw hK
    obtain ⟨its, rv, pa, _⟩ := I.tuple hqx
    obtain ⟨its2, rv2, pb, _⟩ := I.tuple hqy
    obtain ⟨u, hu, ru⟩ := rv.get hx
    obtain ⟨u2, hu2, ru2⟩ := rv2.get hy
    have lz : z < s.heap.objs.size := Heap.lt_size hz
    refine nextS_item D hz hTI hTO h1 h2 pa pb (x := u) (y := u2) (by simpa using hu) (by simpa using hu2) fun h' z' TO' a' b' hT hk => ⟨_, rfl, goS (s := { s with heap := h' }) z' fun h'' z'' sb => ?_⟩
    have hT2 := (sb.2 s.heap.objs.size (Nat.ne_of_gt lz)).trans hT
    have new : ObjOk X.prog X.w (upd H s.heap.objs.size (.tup [x, y])) h'' s.heap.objs.size (.tup [x, y]) := ⟨by show 2 ≤ sizeLine; decide, [u, u2], .cons ru (.cons ru2 .nil), ⟨_, hT2, rfl, _, rfl⟩⟩
    have kk5 : ∀ c o, c ∉ [z, TI, TO, i1, i2] → s.heap.get? c = some o → h''.get? c = some o := fun c o hb q => (sb.2 c fun e => hb (by simp [e])).trans (hk c o (fun e => hb (by simp [e])) (fun e => hb (by simp [e])) (fun e => hb (by simp [e])) (fun e => hb (by simp [e])) q)
    have I1 : Inv X pins σ (upd H s.heap.objs.size (.tup [x, y])) { s with heap := h'' } := I.turnedNew (t' := s.toks) (ch := [z, TI, TO, i1, i2]) kk5 hf (Nat.le_refl _) new
    refine ⟨.ref s.heap.objs.size, _, I1, rfl, ⟨_, x, y, rfl, I.hok.fresh (Nat.le_refl _), rfl, fun l hl => by rw [I.tuple_inj hl hqx]; exact hx, fun l hl => by rw [I.tuple_inj hl hqy]; exact hy⟩,
      ⟨z'', (sb.2 _ D.TIz).trans (hk _ _ D.TIz D.TITO D.TIi1 D.TIi2 hTI), ⟨u, u2, (sb.2 _ D.TOz).trans TO'⟩, a'.at fun o q => (sb.2 _ D.i1z).trans q, b'.at fun o q => (sb.2 _ D.i2z).trans q⟩, fun c hcm => ?_⟩
    have lc : c < s.heap.objs.size := by
      rcases of5 hcm with q | q | q | q | q <;> rw [q]
      · exact lz
      · exact Heap.lt_size hTI
      · exact Heap.lt_size hTO
      · exact let ⟨_, e, _⟩ := h1; Heap.lt_size e
      · exact let ⟨_, e, _⟩ := h2; Heap.lt_size e
    rw [upd_ne (Nat.ne_of_lt lc)]
    exact (hf c hcm).1
  done := by
    intro X hP hw hK hc i pins s σ H E I hf ⟨hz, hTI, ⟨x0, y0, hTO⟩, h1, h2⟩ ⟨xs, ys, hqx, hqy, lx, ly⟩
    subst hP hw hK
    obtain ⟨its, rv, pa, _⟩ := I.tuple hqx
    obtain ⟨its2, rv2, pb, _⟩ := I.tuple hqy
    have e1 := rv.length
    have e2 := rv2.length
    refine nextS_end (I.ok.hd hc) D hz hTI hTO h1 h2 pa pb (by simp; omega) (by simp; omega) fun h' hk => ⟨rfl, I.turnedL (t' := s.toks) (ch := [z, TI, TO, i1, i2]) (fun c o hb q => ?_) hf⟩
    exact hk c o (fun e => hb (by simp [e])) (fun e => hb (by simp [e])) (fun e => hb (by simp [e])) (fun e => hb (by simp [e])) q
  self := fun A i s Q E st h => iterS st.1 h
theorem itOk_zipS {K : Kx} {g : G} {H : Hp} {a b : Addr} {xs ys : List T} (r1 : Rep K g H (.ref a) (.tup xs)) (r2 : Rep K g H (.ref b) (.tup ys)) (hl : xs.length = ys.length) : ItOk K g H (ItZS K.K a b) (zipT xs ys) := fun g1 H1 t => by
  obtain ⟨a', us, ea, h1, q1⟩ := rep_tup (r1.step t)
  cases ea
  obtain ⟨b', ws, eb, h2, q2⟩ := rep_tup (r2.step t)
  cases eb
  refine ⟨fun i x hx => ?_, us, ws, h1, h2, ?_⟩
  · obtain ⟨x1, x2, e1, e2, rfl⟩ := zipT_get hx
    obtain ⟨v1, f1, s1⟩ := q1.get e1
    obtain ⟨v2, f2, s2⟩ := q2.get e2
    refine ⟨⟨us, ws, v1, v2, h1, h2, f1, f2⟩, ?_⟩
    rintro y H2 ⟨p, y1, y2, rfl, hp, rfl, k1, k2⟩
    have z1 := k1 us h1
    have z2 := k2 ws h2
    rw [f1] at z1
    rw [f2] at z2
    cases z1
    cases z2
    have x : Ext H1 (upd H1 p (.tup [v1, v2])) := Ext.new hp
    exact ⟨x, tup2 upd_same (s1.step (Step.ext x)) (s2.step (Step.ext x))⟩
  · rw [zipT_length, q1.length, q2.length]
    omega
def iZipS (K : PySem.W.Frag) (ta : TA) : TI := fun σ H R => ta σ H fun vs H1 => ∃ a b xs ys, vs = [.ref a, .ref b] ∧ SqT K H1 a xs ∧ SqT K H1 b ys ∧ R (ItZS K a b) H1
/-- two tuples of one length -/
def iZipSZ (f : Ea) : Ea := fun s => (f s).bind fun ts s1 => match ts with
  | [.tup xs, .tup ys] => if xs.length = ys.length then .ok (zipT xs ys) s1 else .no
  | _ => .no
theorem cw_type {M : Model} {A : Around} {E : Value → Shared → Prop} {s : Shared} {pos : Pos} {nm : String} {args : List (Bool × Sem Value)} {kws : List (Option Str × Sem Value)} {Q : Value → Shared → Prop} (hplain : args.any (·.1) = false) (hkw : kws.any (·.1.isNone) = false)
    (h : wpAny M A (evalArgs (.type nm) true args kws) (fun a s₁ => wpAny M A (call (.type nm) a.pos a.kw) Q E s₁) E s) : wpAny M A (callWith pos (.type nm) [] args kws) Q E s := by
  unfold callWith
  refine wpAny_bind (wpAny_holding (wpAny_mono h (fun a s₁ h₁ => wpAny_bind (wpAny_standAt ?_)) fun _ _ x => x))
  simp only [hplain, hkw, Bool.or_false]
  exact wpAny_bind (wpAny_pure (wpAny_bind (wpAny_mono h₁ (fun r s₂ hr => wpAny_bind (wpAny_holding (wpAny_point (wpAny_pure hr)))) fun _ _ x => x)))
section
variable {X : Cx} {e e2 : Expr} {ta : TA} {fa : Ea} {p pos tpos kp cp : Pos} {elts : List Expr} {kk j : Nat}
theorem pi_zipS (hg : Gl X "zip") (hm : X.mg "zip" = none) (ha : PA X [e, e2] ta) (hs : starEach [e, e2] X.env = (false, eval e X.env) :: starEach [e2] X.env := by rfl) (hpl : (backTo pos (starEach [e, e2] X.env)).any (·.1) = false := by rfl) (hbt : backTo pos (starEach [e, e2] X.env) = (false, eval e X.env) :: backTo pos (starEach [e2] X.env) := by rfl) :
    PI X (.Tuple elts kk tpos) (.Call (.Name "zip" p) [e, e2] [⟨some "strict", .Constant (.bool true) j cp, kp⟩] pos) (iZipS X.K ta) := by
  refine ⟨fun pins s σ H R I h => ?_⟩
  refine wpAny_Call_Name_kw (ld_blt I hg hm PyProof.Rows.boot_zip (cw_type hpl rfl ?_))
  have run := ha.run pos pins s σ H _ I h
  rw [hbt] at run ⊢
  refine evalArgs_kwB rfl (thn run fun us s1 ⟨vs, H1, I1, r1, a, b, xs, ys, ex, hqx, hqy, q⟩ => kws_cons (Constant_bool (kws_nil ?_)))
  subst ex
  obtain ⟨u, u2, rfl, ru, ru2⟩ := r1.two
  obtain rfl : u = Value.ref a := ru
  obtain rfl : u2 = Value.ref b := ru2
  obtain ⟨its, rv, pa, _⟩ := I1.tuple hqx
  obtain ⟨its2, rv2, pb, _⟩ := I1.tuple hqy
  have pa : s1.heap.IsTuple a its.toArray := pa
  have pb : s1.heap.IsTuple b its2.toArray := pb
  show wpAny _ _ (call (.type "zip") [.ref a, .ref b] [(Str.ofString "strict", .bool true)]) _ _ s1
  refine call_zipS pa pb fun h' hz hTI hTO h1 h2 hk => iterS hz ?_
  have la : a < s1.heap.objs.size := let ⟨_, e, _⟩ := pa; Heap.lt_size e
  have lb : b < s1.heap.objs.size := let ⟨_, e, _⟩ := pb; Heap.lt_size e
  refine ⟨s1.heap.objs.size + 4, [s1.heap.objs.size + 4, s1.heap.objs.size + 2, s1.heap.objs.size + 3, s1.heap.objs.size, s1.heap.objs.size + 1], _, _, H1, rfl, I1.kept (t' := s1.toks) hk, turn_zipS (PySem.W.ktu_apart s1.heap.objs.size a b la lb), ⟨hz, hTI, ⟨_, _, hTO⟩, h1, h2⟩, fun c hcm => ?_, q⟩
  have hle : s1.heap.objs.size ≤ c := by
    rcases of5 hcm with q | q | q | q | q <;> rw [q]
    · exact Nat.le_add_right _ _
    · exact Nat.le_add_right _ _
    · exact Nat.le_add_right _ _
    · exact Nat.le_refl _
    · exact Nat.le_add_right _ _
  exact I1.fpOk hle (I1.hok.fresh hle)
theorem fi_zipS (hg : Gl X "zip") (hm : X.mg "zip" = none) (ha : FA X [e, e2] fa) (hs : starEach [e, e2] X.env = (false, eval e X.env) :: starEach [e2] X.env := by rfl) (hpl : (backTo pos (starEach [e, e2] X.env)).any (·.1) = false := by rfl) (hbt : backTo pos (starEach [e, e2] X.env) = (false, eval e X.env) :: backTo pos (starEach [e2] X.env) := by rfl) :
    FI X (.Tuple elts kk tpos) (.Call (.Name "zip" p) [e, e2] [⟨some "strict", .Constant (.bool true) j cp, kp⟩] pos) (iZipSZ fa) := pi_mono (pi_fit (pi_zipS hg hm ha hs hpl hbt)) fun σ H Rr ⟨b, g, s, vs, s', m, e, k⟩ => by
  obtain ⟨ts, s1, e1, e⟩ := bind_ok e
  split at e
  · rename_i xs ys
    split at e
    · rename_i hl
      cases e
      refine ⟨b, g, s, _, _, m, e1, fun g1 H1 Vs m1 t1 r1 => ?_⟩
      obtain ⟨v, w, rfl, r, r'⟩ := repL_two r1
      obtain ⟨a, us, rfl, h1, q1⟩ := rep_tup r
      obtain ⟨a2, us2, rfl, h2, q2⟩ := rep_tup r'
      exact ⟨a, a2, us, us2, rfl, h1, h2, fun _ z => k g1 H1 _ m1 t1 (itOk_zipS r r' hl) (by have := z _ _ h1; rw [zipT_length, ← q1.length]; omega)⟩
    · cases e
  · cases e
end
end L2.Z
set_option Elab.async false
set_option linter.all false
set_option maxRecDepth 100000
set_option maxHeartbeats 2000000
namespace L2.Z
open PySem PySem.Spec PyProof.Rows
section
variable {X : Cx} {pos spos : Pos} {tg e iter elt tg1 iter1 : Expr} {f h : Ev} {fa fb : Ea} {ft ft1 : Et} {pt pt1 : Pat}
theorem rd_lst {K : Kx} {σ : St} {H : Hp} {Q : VK} (q : rd K (fLst fa) σ H Q) : rdF K fa σ H Q := by
  obtain ⟨b, g, s, v, s', m, e, k⟩ := q
  obtain ⟨ts, s1, e1, e⟩ := bind_ok e
  cases e
  refine ⟨b, g, s, ts, _, m, e1, fun g' H' Vs p m' t' r' hb => ?_⟩
  obtain ⟨g2, m2, t2, r2⟩ := m'.showVal hb r'
  exact k g2 _ _ m2 (t'.trans t2) r2
theorem fs_setLc {i : Nat} {y : Str} {py : Pos} {scope : Scope} {own : List (Str × Nat)} {us : List Nat} (hc : X.calm = true) (hN : X.N.Nodup) (hi : FI X tg iter fa) (ok : BlkOk X.N X.env.scope scope own) {ifs : List Expr}
    (hg : ∀ (s : Shared) (H : Hp) (C : Addr) (cl : List (Str × Addr)) (fp : List Addr), FG (X.blk s H scope (compEnvC scope cl C X.env) fp) tg us pt) (ht : ∀ (s : Shared) (H : Hp) (C : Addr) (cl : List (Str × Addr)) (fp : List Addr), FTs (X.blk s H scope (compEnvC scope cl C X.env) fp) ifs ft)
    (he : ∀ (s : Shared) (H : Hp) (C : Addr) (cl : List (Str × Addr)) (fp : List Addr), FE (X.blk s H scope (compEnvC scope cl C X.env) fp) elt f) (hy : X.N[i]? = some y := by rfl) (hyl : X.env.scope.names.lookup y = some .local := by rfl)
    (hsw : swapsWith (.ListComp elt [⟨tg, iter, ifs, 0⟩] scope pos) (some (.Name y py)) spos.line X.env = pure true := by rfl) (hv : (us.all fun i => (own.map (·.2)).contains i) = true := by rfl) (hs : ∀ x, foldedSetIterable iter X.env x = pure x := by intro _; rfl) :
    FS X (.Assign [.Name y py] (.ListComp elt [⟨tg, iter, ifs, 0⟩] scope pos) spos) (sSet i (fLst (aLc fa pt ft f (own.map (·.2))))) :=
  ps_mono (ps_setLc hc hN hy hyl hsw hi ok hg ht he hs) fun D σ H ⟨b, g, s, fl, s', m, e, k⟩ => by
    obtain ⟨x, s1, e1, e⟩ := bind_ok e
    cases e
    exact tLc_of (fun i hi => by simpa using List.all_eq_true.mp hv i hi) (rd_lst ⟨b, g, s, x, s1, m, e1, fun g' H' V m' t' r' => k g' _ H' (m'.put r') t'⟩)
end
end L2.Z
set_option Elab.async false
set_option linter.all false
set_option maxRecDepth 100000
set_option maxHeartbeats 2000000
namespace L2.Z
open PySem PySem.Spec PyProof.Rows
section
variable {K : Kx} {g : G} {H : Hp}
theorem key_plain {y : V} {t : T} (r : Rep K g H y t) (h : isKeyT t = true) (h2 : isTupT t = false) : ∃ k, y = kV k ∧ t = kT k := by
  cases t with
  | int i => exact ⟨.inl i, rep_int r, rfl⟩
  | str i => exact ⟨.inr i, rep_str r, rfl⟩
  | tup us => cases h2
  | _ => simp [isKeyT, isTupT] at h
end
section
variable {X : Cx} {o e d a : Expr} {apos cpos p pos tp : Pos} {fp : Ep} {f h l : Ev} {fa : Ea}
end
end L2.Z
set_option Elab.async false
set_option linter.all false
set_option maxRecDepth 100000
set_option maxHeartbeats 2000000
namespace L2.Z
open PySem PySem.Spec PyProof.Rows
section
variable {X : Cx} {pos apos cpos p p' p2 : Pos} {o e a : Expr} {es : List Expr} {fp : Ep} {f h : Ev} {fa : Ea} {k : Bool}
def clMin2 (xs : List T) : Option T := match xs with
  | [.int i, .int j] => some (.int (if j < i then j else i))
  | _ => none
theorem cz_min2 (hc : X.calm = true) : CallR X (.builtin "min") (rCl X.kx clMin2) := by
  intro pins s σ H xs us Q I rs ⟨g, ts, z, mk, r, e, q⟩
  unfold clMin2 at e
  split at e
  · cases e
    obtain ⟨v, w, rfl, r1, r2⟩ := repL_two r
    cases rep_int r1
    cases rep_int r2
    exact call_min2 hc pins s σ H _ us Q I rs ⟨_, _, rfl, q _ _ (Ext.refl H) (.int _)⟩
  · cases e
end
inductive Ar where
  | val (t : T) | own (n : Nat)
abbrev Ears := S → R (List Ar)
def ArRep (K : Kx) (g : G) (H : Hp) (v : V) : Ar → Prop
  | .val t => Rep K g H v t
  | .own n => ∃ a, v = .ref a ∧ g.lam[n]? = some a
inductive ArsRep (K : Kx) (g : G) (H : Hp) : List V → List Ar → Prop
  | nil : ArsRep K g H [] []
  | cons {v r vs rs} : ArRep K g H v r → ArsRep K g H vs rs → ArsRep K g H (v :: vs) (r :: rs)
theorem ArRep.step {K : Kx} {g g' : G} {H H' : Hp} (t : Step g H g' H') {v : V} {r : Ar} (h : ArRep K g H v r) : ArRep K g' H' v r := by
  cases r with
  | val x => exact Rep.step t h
  | own n => exact let ⟨a, h1, h2⟩ := h; ⟨a, h1, lam_at t h2⟩
def S.view (s : S) : List Ar → Option (List T)
  | [] => some []
  | .val t :: rs => if t.pure = true then (s.view rs).map (t :: ·) else none
  | .own n :: rs => match s.lo[n]? with
    | some (.lst ts) => if pures ts = true then (s.view rs).map (.lst ts :: ·) else none
    | _ => none
theorem Sim.view {K : Kx} {b : B} {g : G} {s : S} {σ : St} {H : Hp} (m : Sim K b g s σ H) : ∀ {vs : List V} {rs : List Ar} {ts : List T}, ArsRep K g H vs rs → s.view rs = some ts → RepL K G.nil H vs ts
  | _, _, _, .nil, e => by cases e; exact .nil
  | _, _, _, .cons (r := .val t) (rs := rs) a r, e => by
    have e : (if t.pure = true then (s.view rs).map (t :: ·) else none) = some _ := e
    split at e
    · rename_i hp
      cases q : s.view rs with
      | none => rw [q] at e; cases e
      | some us =>
        rw [q] at e
        cases e
        exact .cons (Rep.nil hp a) (m.view r q)
    · cases e
  | _, _, _, .cons (r := .own n) (rs := rs) a r, e => by
    have e : (match s.lo[n]? with
    | some (.lst ts) => if pures ts = true then (s.view rs).map (.lst ts :: ·) else none
    | _ => none) = some _ := e
    split at e
    · rename_i ts ho
      split at e
      · rename_i hp
        cases q : s.view rs with
        | none => rw [q] at e; cases e
        | some us =>
          rw [q] at e
          cases e
          obtain ⟨c, rfl, hc⟩ := a
          obtain ⟨ws, h1, h2⟩ := (m.loc n c _ hc ho (by simp)).1.lst_inv
          exact .cons (.lst h1 (by simp [G.nil]) (RepL.pnil hp h2)) (m.view r q)
      · cases e
    · cases e
section
variable {X : Cx} {k : Nat} {f : Addr} {fd : FuncData} {ps : List Str} {x : Str} {p pos : Pos} {e : Expr} {es : List Expr} {fr : Ears} {F : Fd} {ff : Ev}
end
end L2.Z
set_option Elab.async false
set_option linter.all false
set_option maxRecDepth 100000
set_option maxHeartbeats 2000000
namespace L2.Z
open PySem PySem.Spec PyProof.Rows
section
variable {X : Cx} {pos p2 : Pos} {e : Expr} {f h : Ev}
def opOr (op op' : T → T → Option T) (x y : T) : Option T := match op x y with
  | some z => some z
  | none => op' x y
theorem oz_or {F : Value → Value → Sem Value} {op op' : T → T → Option T} (h : OpR X F (rOp X.kx op)) (h' : OpR X F (rOp X.kx op')) : OpR X F (rOp X.kx (opOr op op')) := by
  intro pins s σ H x y v u Q I rx ry ⟨g, tx, ty, z, mk, r1, r2, e, q⟩
  unfold opOr at e
  split at e
  · rename_i z' hz
    cases e
    exact h pins s σ H x y v u Q I rx ry ⟨g, tx, ty, _, mk, r1, r2, hz, q⟩
  · exact h' pins s σ H x y v u Q I rx ry ⟨g, tx, ty, z, mk, r1, r2, e, q⟩
abbrev opMulA : T → T → Option T := opOr opMul opMulS
theorem oz_mulA : OpR X (binaryOp .Mult) (rOp X.kx opMulA) := oz_or oz_mul oz_mulS
/-- e[lo:hi] of a tuple, a list (a new one, a value) -/
def fSlA (f : Ev) (lo hi : Eo) : Ev := fun s => (f s).bind fun t s1 => (lo s1).bind fun l s2 => (hi s2).bind fun u s3 => match t with
  | .tup ts => .ok (.tup (cutT ts l u)) s3
  | .lst ts => .ok (.lst (cutT ts l u)) s3
  | _ => .no
theorem fe_slA {lo hi : Option Expr} {fl fu : Eo} (he : FE X e f) (hl : FO X lo fl) (hu : FO X hi fu) : FE X (.Subscript e (.Slice lo hi none p2) pos) (fSlA f fl fu) := pe_mono (pe_slice (SlR.or sl_tupZ sl_list) he hl hu) fun σ H Q ⟨b, g, s, v, s', m, e, k⟩ => by
  obtain ⟨t, s1, e1, e⟩ := bind_ok e
  obtain ⟨l, s2, e2, e⟩ := bind_ok e
  obtain ⟨u, s3, e3, e⟩ := bind_ok e
  refine ⟨b, g, s, _, _, m, e1, fun g1 H1 V m1 t1 r1 => ⟨b, g1, _, l, s2, m1, e2, fun g2 H2 m2 t2 => ⟨b, g2, s2, u, _, m2, e3, fun g3 H3 m3 t3 => ?_⟩⟩⟩
  have tt := t1.trans (t2.trans t3)
  cases t with
  | tup ts =>
    cases e
    obtain ⟨a, us, rfl, h1, hn, h2⟩ := rep_tupN (r1.step (t2.trans t3))
    refine .inl ⟨a, us, rfl, h1, fun c => k g3 H3 _ m3 tt ?_, fun p o hp hd => k g3 _ _ (m3.ext (Ext.new hp)) (tt.trans (Step.ext (Ext.new hp))) (.new hd hp (h2.cut l u))⟩
    have : cutT ts l u = ts := by
      unfold cutT
      rw [h2.length] at c
      rw [c.1, c.2]
      simp
    rw [this]
    exact .tup h1 hn h2
  | lst ts =>
    cases e
    obtain ⟨a, us, rfl, h1, h2⟩ := rep_lst (r1.step (t2.trans t3))
    refine .inr ⟨a, us, rfl, h1, fun p hp => ?_⟩
    have m4 := m3.hide (ho := .lst (cutV us l u)) hp trivial
    obtain ⟨g5, m5, t5, r5⟩ := m4.showVal (m3.hidn' hp) ((h2.cut l u).step (step_new hp))
    exact k g5 _ _ m5 (tt.trans ((step_new hp).trans t5)) r5
  | _ => cases e
end
/-- what every derivation of a body has -/
theorem room_u {k : Nat} {A : Around} (r : Room k A) : A.units + 103 < cLine := by have := r.un; omega
theorem room_u1 {k : Nat} {A : Around} (r : Room k A) : A.units + 101 < cLine := by have := r.un; omega
theorem room_u2 {k : Nat} {A : Around} (r : Room k A) : A.units + 12 < cLine := by have := r.un; omega
end L2.Z
set_option Elab.async false
set_option linter.all false
set_option maxRecDepth 100000
set_option maxHeartbeats 2000000
namespace L2.Z
open PySem PySem.Spec PyProof.Rows
section
variable {X : Cx} {pos spos : Pos} {tg e iter elt : Expr} {f h : Ev} {fp : Ep} {ft : Et} {pt : Pat}
def loopCP (pl : Pl) (n : Nat) (p : Pat) (c : Et) (f : Ev) (vs : List Nat) : Nat → Ea
  | 0, s => match s.lstAt pl with
    | some ts => if ts.length = n then .ok [] s else .no
    | none => .no
  | r + 1, s => match s.lstAt pl with
    | some ts => if ts.length = n then match ts[n - (r + 1)]? with
      | some t => (p t (s.wipe vs)).bind fun _ s1 => (c s1).bind fun k s2 => if k = true then (f s2).bind fun y s3 => (loopCP pl n p c f vs r s3).bind fun ys s4 => .ok (y :: ys) s4 else loopCP pl n p c f vs r s2
      | none => .no
      else .no
    | none => .no
def aLcP (fp : Ep) (p : Pat) (c : Et) (f : Ev) (vs : List Nat) : Ea := fun s => (fp s).bind fun pl s1 => match s1.lstAt pl with
  | some ts => (loopCP pl ts.length p c f vs ts.length s1).bind fun ys s2 => .ok ys (s2.rest s1 vs)
  | none => .no
theorem tLcP_of {K : Kx} {us vs : List Nat} {σ : St} {H : Hp} {Q : VK} (hv : ∀ i ∈ us, i ∈ vs) (q : rdF K (aLcP fp pt ft f vs) σ H Q) : tLc (fun σ H Rr => iList K.K (rdP K fp) σ H fun J H1 => (∀ a xs, SqL K.K H1 a xs → xs.length ≤ sizeLine) → (∀ a xs, SqT K.K H1 a xs → xs.length ≤ sizeLine) → Rr J H1) (rdG K us pt) (rdT K ft) (rd K f) vs σ H Q := by
  obtain ⟨b, g, s, ys, s', m, e, k⟩ := q
  obtain ⟨pl, s1, e1, e⟩ := bind_ok e
  split at e
  case h_2 => cases e
  rename_i ts hts
  obtain ⟨zs, s2, e2, e⟩ := bind_ok e
  cases e
  refine ⟨b, g, s, pl, s1, m, e1, fun g1 H1 a m1 t1 pa => ?_⟩
  obtain ⟨us0, h10, h20⟩ := (m1.at pa (lstAt_at hts)).1.lst_inv
  refine ⟨a, rfl, ⟨us0, SqL.of h10⟩, fun fitL _ D hD => ?_⟩
  have fit : ts.length ≤ sizeLine := by rw [← h20.length]; exact fitL a us0 (SqL.of h10)
  have mD := m1.hide (ho := .lst []) hD trivial
  have hbD := m1.hidn' hD
  have tD : Step g1 H1 { g1 with mu := D :: g1.mu } (upd H1 D (.lst [])) := step_new hD
  refine ⟨fun i n H' => n = ts.length - i ∧ i ≤ ts.length ∧ ∃ g3 s3 σ3 Vs xs rs, Sim K (b.hide D (.lst Vs)) g3 s3 σ3 H' ∧ (σ3.length = σ.length ∧ ∀ i : Nat, i ∉ vs → σ3[i]? = σ[i]?) ∧ Step g1 H1 g3 H' ∧ RepL K g3 H' Vs xs ∧ xs ++ rs = ys ∧ loopCP pl ts.length pt ft f vs (ts.length - i) s3 = .ok rs s2 ∧ xs.length ≤ i,
    ⟨_, rfl, Nat.zero_le _, _, s1, σ, [], [], ys, mD, ⟨rfl, fun _ _ => rfl⟩, tD, .nil, rfl, by simpa using e2, Nat.zero_le _⟩, ?_⟩
  rintro i n H2 ⟨rfl, hi, g3, s3, σ3, Vs, xs, rs, m3, ⟨l3, o3⟩, t3, r3, rfl, e3, lx⟩
  by_cases hl : i = ts.length
  · subst hl
    rw [Nat.sub_self] at e3
    have e3 : (match s3.lstAt pl with
    | some ts' => if ts'.length = ts.length then R.ok [] s3 else .no
    | none => .no) = .ok rs s2 := e3
    split at e3
    · rename_i ts2 ht2
      split at e3
      · rename_i ln
        cases e3
        obtain ⟨us, h1, h2⟩ := (m3.at (pa.step t3) (lstAt_at ht2)).1.lst_inv
        refine .inl ⟨⟨us, SqL.of h1, Nat.le_of_eq (h2.length.trans ln)⟩, ?_⟩
        rw [List.append_nil] at k
        exact k g3 H2 Vs D (m1.rest m3 t3 l3 fun i hi => o3 i hi) (t1.trans t3) r3 hbD
      · cases e3
    · cases e3
  · have hlt : i < ts.length := Nat.lt_of_le_of_ne hi hl
    obtain ⟨r, hr⟩ : ∃ r, ts.length - i = r + 1 := ⟨ts.length - i - 1, by omega⟩
    rw [hr] at e3
    have e3 : (match s3.lstAt pl with
    | some ts' => if ts'.length = ts.length then match ts'[ts.length - (r + 1)]? with
      | some t => (pt t (s3.wipe vs)).bind fun _ s1 => (ft s1).bind fun k s2 => if k = true then (f s2).bind fun y s3 => (loopCP pl ts.length pt ft f vs r s3).bind fun ys s4 => R.ok (y :: ys) s4 else loopCP pl ts.length pt ft f vs r s2
      | none => .no
      else .no
    | none => .no) = .ok rs s2 := e3
    have hix : ts.length - (r + 1) = i := by omega
    have hr2 : ts.length - (i + 1) = r := by omega
    rw [hix] at e3
    split at e3
    case h_2 => cases e3
    rename_i ts2 ht2
    split at e3
    case isFalse => cases e3
    rename_i ln
    split at e3
    case h_2 => cases e3
    rename_i t ht
    obtain ⟨_, s4, e4, e3⟩ := bind_ok e3
    obtain ⟨kk, s5, e5, e3⟩ := bind_ok e3
    obtain ⟨us, h1, h2⟩ := (m3.at (pa.step t3) (lstAt_at ht2)).1.lst_inv
    obtain ⟨v, hvv, rv⟩ := h2.get ht
    refine .inr ⟨⟨us, v, SqL.of h1, hvv⟩, fun H' => ∃ g3 s3 σ3 Vs' xs' rs', Sim K (b.hide D (.lst Vs')) g3 s3 σ3 H' ∧ (σ3.length = σ.length ∧ ∀ i : Nat, i ∉ vs → σ3[i]? = σ[i]?) ∧ Step g1 H1 g3 H' ∧ RepL K g3 H' Vs' xs' ∧ xs' ++ rs' = xs ++ rs ∧ loopCP pl ts.length pt ft f vs r s3 = .ok rs' s2 ∧ xs'.length ≤ i + 1,
      fun H' ⟨g3, s3, σ3, Vs', xs', rs', q1, q2, q3, q4, q5, q6, q7⟩ => ⟨_, by omega, rfl, hlt, g3, s3, σ3, Vs', xs', rs', q1, q2, q3, q4, q5, by rw [hr2]; exact q6, q7⟩, fun x H3 hy => ?_⟩
    obtain ⟨rfl, hy⟩ := hy
    have hx := hy us (SqL.of h1)
    rw [hvv] at hx
    cases hx
    have m4 : Sim K (b.hide D (.lst Vs)) g3 (s3.wipe vs) (L2.wipe σ vs) _ := m3.wipe (by rw [wipe_len, l3]) fun j hj => by rw [wipe_get hj, o3 j hj]
    refine ⟨_, g3, _, _, s4, m4, rv, e4, fun g5 σ5 H5 u5 m5 t5 => ?_⟩
    have o5 : σ5.length = σ.length ∧ ∀ i : Nat, i ∉ vs → σ5[i]? = σ[i]? := ⟨by rw [u5.1, wipe_len], fun j hj => by rw [u5.2 j fun q => hj (hv j q), wipe_get hj]⟩
    refine ⟨wipe_eq o5.1 o5.2, _, g5, s4, kk, s5, m5, e5, fun g6 H6 m6 t6 => ?_⟩
    have tt : Step g1 H1 g6 H6 := t3.trans (t5.trans t6)
    cases kk with
    | false =>
      rw [if_neg Bool.false_ne_true] at e3
      refine iteF ?_
      exact ⟨g6, s5, σ5, Vs, xs, rs, m6, o5, tt, r3.step (t5.trans t6), rfl, e3, Nat.le_succ_of_le lx⟩
    | true =>
      rw [if_pos rfl] at e3
      refine iteT ?_
      obtain ⟨y, s7, e7, e3⟩ := bind_ok e3
      obtain ⟨rs', s8, e8, e3⟩ := bind_ok e3
      cases e3
      refine ⟨_, g6, s5, y, s7, m6, e7, fun g7 H7 V7 m7 t7 r7 => ?_⟩
      have hD7 := (m7.hidn (D, .lst Vs) (List.mem_cons_self ..)).1
      obtain ⟨m8, t8⟩ := m7.grow (ho' := .lst (Vs ++ [V7])) trivial hbD
      have r37 : RepL K g7 H7 Vs xs := r3.step (t5.trans (t6.trans t7))
      refine ⟨Vs, hD7, ?_, g7, s7, σ5, Vs ++ [V7], xs ++ [y], rs', m8, o5, tt.trans (t7.trans t8), (r37.append (.cons r7 .nil)).step t8, by simp, e8, by simpa using lx⟩
      rw [r37.length]
      exact Nat.lt_of_le_of_lt lx (Nat.lt_of_lt_of_le hlt fit)
end
end L2.Z
set_option Elab.async false
set_option linter.all false
set_option maxRecDepth 100000
set_option maxHeartbeats 2000000
namespace L2.Z
open PySem PySem.Spec PyProof.Rows PpSet
/-- the reading: the set grows key by key -/
def tScK (P : Program) (w : World) (wi : TI) (g : TG) (tt : TT) (te : TE) (vs : List Nat) : TE := fun σ H Q => wi σ H fun J H1 => ∀ D, H1 D = none → ∃ W : Nat → Nat → Hp → Prop, (∃ m, W 0 m (upd H1 D (SetK P w D (fun _ => false) 0))) ∧ ∀ i m H, W i m H →
  (J.stop i H ∧ Q (.ref D) H) ∨ (J.go i H ∧ ∃ Nx : Hp → Prop, (∀ H', Nx H' → ∃ m', m' < m ∧ W (i + 1) m' H') ∧ ∀ x H', J.yld i H x H' → g x (L2.wipe σ vs) H' fun σ2 H2 => L2.wipe σ2 vs = L2.wipe σ vs ∧ tt σ2 H2 fun b H3 =>
    if b = true then te σ2 H3 fun y H4 => ∃ (c : Key) (S : Key → Bool) (n : Nat), y = kV c ∧ H4 D = some (SetK P w D S n) ∧ n + 1 < scanBound ∧ Nx (upd H4 D (SetK P w D (fun j => S j || decide (j = c)) (if S c = true then n else n + 1))) else Nx H3)
section
variable {X : Cx}
theorem pe_scK {elt tg iter : Expr} {ifs : List Expr} {scope : Scope} {own : List (PySem.Str × Nat)} {pos : Pos} {wi : TI} {g : TG} {tt : TT} {te : TE} (hc : X.calm = true) (hN : X.N.Nodup) (hi : PI X tg iter wi) (ok : BlkOk X.N X.env.scope scope own)
    (hg : ∀ (s : Shared) (H : Hp) (C : Addr) (cl : List (PySem.Str × Addr)) (fp : List Addr), PG (X.blk s H scope (compEnvC scope cl C X.env) fp) tg g) (ht : ∀ (s : Shared) (H : Hp) (C : Addr) (cl : List (PySem.Str × Addr)) (fp : List Addr), PTs (X.blk s H scope (compEnvC scope cl C X.env) fp) ifs tt)
    (he : ∀ (s : Shared) (H : Hp) (C : Addr) (cl : List (PySem.Str × Addr)) (fp : List Addr), PE (X.blk s H scope (compEnvC scope cl C X.env) fp) elt te) (hs : ∀ x, foldedSetIterable iter X.env x = pure x := by intro _; rfl) : PE X (.SetComp elt [⟨tg, iter, ifs, 0⟩] scope pos) (tScK X.prog X.w wi g tt te (own.map (·.2))) := by
  refine ⟨fun pins s σ H Q I h => ?_⟩
  rw [eval_SetComp]
  have cap : ∀ y ∈ scope.names, y.2 = .free → ∃ c, X.env.cells.lookup y.1 = some c := fun y hy e => (ok.free y hy e).elim (fun k => I.ok.has _ (.inl k)) fun k => I.ok.has _ (.inr k)
  refine wpAny_comprehension_free rfl hs (closure_ok cap) ok.kind (fun y hy e => by rw [ok.uniq y hy, e]) (thn (hi.run pins s σ H _ I h) fun _ t1 hx => thn hx fun _ t2 ⟨it, fp, tn, J, H2, e, I2, Tn, st2, f2, q⟩ => ?_)
  subst e
  refine newSet_ok (newEnv_comp ?_)
  generalize hD : t2.heap.objs.size = D
  obtain ⟨W, ⟨m0, w0⟩, turn⟩ := q D (I2.hok.fresh (Nat.le_of_eq hD))
  generalize ht3 : ({ t2 with heap := t2.heap.push { cls := .type "set", dict := none, data := .set #[] 0 (.fresh 0 0 (!X.w.params.followText "set-order")) } } : Shared) = t3
  have hp3 : t3.heap = t2.heap.push { cls := .type "set", dict := none, data := .set #[] 0 (.fresh 0 0 (!X.w.params.followText "set-order")) } := by rw [← ht3]
  have emp : t3.heap.SetOf (mixKind X.prog X.w) D (fun _ => false) 0 := by
    rw [hp3, ← hD]
    exact ⟨_, #[], 0, _, Heap.get?_push_size _ rfl, ⟨rfl, rfl, rfl⟩, rfl, fun e he => by simp at he, fun k => by simp, by decide, by rfl, rfl⟩
  have I3 : Inv X pins σ (upd H2 D (SetK X.prog X.w D (fun _ => false) 0)) t3 := by
    have emp' := emp
    rw [← ht3] at emp' ⊢
    exact I2.laid (t' := t2.toks) (fun b o e => Heap.get?_push_of_some _ e) (Nat.le_of_eq hD) (setK_new emp')
  have old : ∀ b ∈ fp, b < t2.heap.objs.size := fun b hb => let ⟨_, e, _⟩ := Tn.obj _ _ st2 b hb; Heap.lt_size e
  have f3 : ∀ b ∈ fp, FpOk X pins (upd H2 D (SetK X.prog X.w D (fun _ => false) 0)) b ∧ b < t3.heap.objs.size := fun b hb => ⟨⟨by rw [upd_ne (by rw [← hD]; exact Nat.ne_of_lt (old b hb))]; exact (f2 b hb).1, (f2 b hb).2⟩, by rw [hp3, Heap.size_push]; exact Nat.lt_succ_of_lt (old b hb)⟩
  have st3 : tn 0 t3.heap := Tn.keep _ _ _ st2 fun b _ o e => by rw [hp3]; exact Heap.get?_push_of_some _ e
  have I4 := block_start I3 ok hN f3
  have rg := hg t3 (upd H2 D (SetK X.prog X.w D (fun _ => false) 0)) t3.heap.objs.size (cellsFrom (t3.heap.objs.size + 1) scope.names (cloFrom X.env.cells scope.names [])) fp
  have rt := ht t3 (upd H2 D (SetK X.prog X.w D (fun _ => false) 0)) t3.heap.objs.size (cellsFrom (t3.heap.objs.size + 1) scope.names (cloFrom X.env.cells scope.names [])) fp
  have re := he t3 (upd H2 D (SetK X.prog X.w D (fun _ => false) 0)) t3.heap.objs.size (cellsFrom (t3.heap.objs.size + 1) scope.names (cloFrom X.env.cells scope.names [])) fp
  show codeAny _ _ (.compStart (.SetComp elt [⟨tg, iter, ifs, 0⟩] scope pos) 0 (.ref it) (.ref D) (compEnvC scope (cellsFrom (t3.heap.objs.size + 1) scope.names (cloFrom X.env.cells scope.names [])) t3.heap.objs.size X.env)) (compPost (model X.prog X.w) X.A X.xe none (EP X pins σ Q) (.ref D) t3.heap.objs.size) _
  have nfp : ∀ b ∈ fp, (upd H2 D (SetK X.prog X.w D (fun _ => false) 0)) b = none := fun b hb => (f3 b hb).1.1
  generalize hce : compEnvC scope (cellsFrom (t3.heap.objs.size + 1) scope.names (cloFrom X.env.cells scope.names [])) t3.heap.objs.size X.env = ce at I4 rg rt re ⊢
  have cl : ce.locals = t3.heap.objs.size := by subst hce; rfl
  generalize upd H2 D (SetK X.prog X.w D (fun _ => false) 0) = H3 at I3 I4 rg rt re w0 nfp f3
  generalize ht4 : ({ t3 with heap := pushCells (t3.heap.push { cls := .type "dict", data := .dict #[] }) scope.names } : Shared) = t4 at I4 ⊢
  have st4 : tn 0 t4.heap := Tn.keep _ _ _ st3 fun b _ o e => by rw [← ht4]; exact pushCells_keeps _ _ _ _ (Heap.get?_push_of_some _ e)
  have stat : ∀ {σ' : L2.St} {H' : Hp} {s' : Shared}, Inv (X.blk t3 H3 scope ce fp) [] σ' H' s' → (∀ b ∈ fp, H' b = none) → ∀ b ∈ fp, FpOk (X.blk t3 H3 scope ce fp) [] H' b := fun {σ' H' s'} I' hn b hb => ⟨hn b hb, (I'.ok.exf b hb).1, I'.ok.exfs b hb, .inl hb, fun x c e => (I'.ok.exf b hb).2 x c e, fun p hp => by simp at hp⟩
  have loop : codeAny (model X.prog X.w) X.A (.compLoop (.SetComp elt [⟨tg, iter, ifs, 0⟩] scope pos) 0 (.ref it) (.ref D) ce) (compPost (model X.prog X.w) X.A X.xe none (EP X pins σ Q) (.ref D) t3.heap.objs.size) t4 := by
    refine compLoopS_any (fun n s' => ∃ i H', Inv (X.blk t3 H3 scope ce fp) [] (L2.wipe σ (own.map (·.2))) H' s' ∧ tn i s'.heap ∧ (∀ b ∈ fp, H' b = none) ∧ W i n H') ?_ m0 ⟨0, H3, I4, st4, nfp, w0⟩
    rintro n t5 ⟨i, H5, I5, st5, n5, w5⟩
    rcases turn i n H5 w5 with ⟨stop, qq⟩ | ⟨go, Nx, hNx, step⟩
    · refine thnF (Tn.done (X.blk t3 H3 scope ce fp) rfl rfl rfl hc i [] t5 _ H5 (fun _ _ => False) I5 (stat I5 n5) st5 stop) fun r t6 ⟨hr, I6⟩ => ?_
      subst hr
      have I7 : Inv X pins σ H5 t6 := I3.call' (ch := fp) I6.os I6.base I6.hok I6.bare fun b hb => ⟨(f3 b hb).1.2.2.2.1, (f3 b hb).1.2.1, (f3 b hb).1.2.2.2.2.1, (f3 b hb).1.2.2.2.2.2⟩
      have nC : H5 t3.heap.objs.size = none := cl ▸ (show H5 ce.locals = none from I6.free)
      obtain ⟨m, hn, _⟩ := I6.loc
      have hn : t6.heap.Ns t3.heap.objs.size m := cl ▸ (show t6.heap.Ns ce.locals m from hn)
      obtain ⟨a0, a1, a2, a3, a4, a5⟩ := I3.fpOk (H' := H5) (Nat.le_refl _) nC
      exact ⟨m, hn, fun h'' sb => ⟨.ref D, H5, I7.turned (t' := t6.toks) (fun b o hb e => (sb.2 b hb).trans e) a0 a1 a3 a4 a5, rfl, qq⟩⟩
    · refine thnF (Tn.item (X.blk t3 H3 scope ce fp) rfl rfl rfl hc i [] t5 _ H5 (fun _ _ => False) I5 (stat I5 n5) st5 go) fun r t6 ⟨u, hr, h6⟩ => ?_
      subst hr
      refine thnF h6 fun _ t7 ⟨x, H7, I7, r7, y7, st7, n7⟩ => ?_
      refine thnF (rg.run _ t7 _ H7 x u _ (I7.pinned (stat I7 n7) (Tn.obj _ _ st7)) r7 (step x H7 y7)) fun _ t8 ⟨σ8, H8, I8, hw8, q8⟩ => thnF (rt.run _ t8 σ8 H8 _ I8 q8) fun b t9 ⟨H9, I9, q9⟩ => ?_
      have fin : ∀ {s' : Shared} {H' : Hp}, Inv (X.blk t3 H3 scope ce fp) ([] ++ pinsAt fp t7.heap) σ8 H' s' → Nx H' → ∃ m, m < n ∧ ∃ i H', Inv (X.blk t3 H3 scope ce fp) [] (L2.wipe σ (own.map (·.2))) H' s' ∧ tn i s'.heap ∧ (∀ b ∈ fp, H' b = none) ∧ W i m H' := fun {s' H'} I' nx => by
        obtain ⟨m', hm, w'⟩ := hNx H' nx
        have pin : ∀ b ∈ fp, ∀ o, t7.heap.get? b = some o → s'.heap.get? b = some o ∧ H' b = none := fun b hb o e => let z := I'.pin (b, o) (List.mem_append_right _ (List.mem_append_right _ (mem_pinsAt hb e))); ⟨z.1, z.2.1⟩
        refine ⟨m', hm, i + 1, H', (I'.unpinned (pins := [])).weak (by rw [← hw8, L2.wipe_length]) (fun j v e => ?_), Tn.keep _ _ _ st7 fun b hb o e => (pin b hb o e).1, fun b hb => let ⟨o, e, _⟩ := Tn.obj _ _ st7 b hb; (pin b hb o e).2, w'⟩
        rw [← hw8] at e
        exact (wipe_some e).1
      cases b with
      | false =>
        simp only [Bool.false_eq_true, if_false] at q9 ⊢
        exact fin I9 q9
      | true =>
        simp only [if_true] at q9 ⊢
        refine thnF (re.run _ t9 σ8 H9 _ I9 q9) fun z t10 ⟨yv, H10, I10, r10, c, S0, n0, ey, hD10, room, nx⟩ => ?_
        subst ey
        refine wpAny_mono (mt_saddK (X := X.blk t3 H3 scope ce fp) _ t10 σ8 H10 (.ref D) [kV c] (.ref D) [z] (fun v H' => H' = upd H10 D (SetK X.prog X.w D (fun j => S0 j || decide (j = c)) (if S0 c = true then n0 else n0 + 1)) ) I10 rfl (.cons r10 .nil) ⟨D, c, S0, n0, rfl, rfl, hD10, room, rfl⟩) (fun v t11 ⟨_, H11, I11, _, e11⟩ => ?_) fun _ _ z => (show False from z).elim
        subst e11
        exact fin I11 nx
  exact codeAny_compStart_set loop (Tn.self X.A 0 _ _ _ st4 loop)
end
end L2.Z
set_option Elab.async false
set_option linter.all false
set_option maxRecDepth 100000
set_option maxHeartbeats 2000000
namespace L2.Z
open PySem PySem.Spec PyProof.Rows
def scAdd (acc : List T) (y : T) : List T := if acc.any (fun t => decide (nk0 t = nk0 y)) = true then acc else acc ++ [y]
def loopSc (p : Pat) (c : Et) (f : Ev) (vs : List Nat) : List T → List T → Ea
  | acc, [], s => .ok acc s
  | acc, t :: r, s => (p t (s.wipe vs)).bind fun _ s1 => (c s1).bind fun k s2 => if k = true then (f s2).bind fun y s3 => if isKeyT y = true ∧ isTupT y = false ∧ acc.length < 50 then loopSc p c f vs (scAdd acc y) r s3 else .no else loopSc p c f vs acc r s2
def fLenSc (it : Ea) (p : Pat) (c : Et) (f : Ev) (vs : List Nat) : Ev := fun s => (it s).bind fun ts s1 => (loopSc p c f vs [] ts s1).bind fun ks s2 => .ok (.int ks.length) (s2.rest s1 vs)
def scS (acc : List T) : Key → Bool := fun j => acc.any fun t => decide (nk0 t = nk0 (kT j))
abbrev scO (P : Program) (w : World) (D : Addr) (acc : List T) : HO := SetK P w D (scS acc) acc.length
theorem scO_add {P : Program} {w : World} {D : Addr} {acc : List T} {c : Key} : SetK P w D (fun j => scS acc j || decide (j = c)) (if scS acc c = true then acc.length else acc.length + 1) = scO P w D (scAdd acc (kT c)) := by
  unfold scO scAdd
  by_cases h : scS acc c = true
  · rw [if_pos h, if_pos (show (acc.any fun t => decide (nk0 t = nk0 (kT c))) = true from h)]
    congr 1
    funext j
    by_cases e : j = c
    · rw [e, h, Bool.true_or]
    · rw [decide_eq_false e, Bool.or_false]
  · rw [if_neg h, if_neg (show ¬ (acc.any fun t => decide (nk0 t = nk0 (kT c))) = true from h)]
    congr 1
    · funext j
      unfold scS
      rw [List.any_append, List.any_cons, List.any_nil, Bool.or_false]
      congr 1
      exact decide_eq_decide.mpr ⟨fun e => by rw [e], fun e => (nk0_kT.mp e).symm⟩
    · simp
section
variable {X : Cx} {pos p : Pos} {tg iter elt : Expr} {f : Ev} {fa : Ea} {ft : Et} {pt : Pat}
def rLenK (P : Program) (w : World) : List V → Hp → VK → Prop := fun xs H Q => ∃ a S n, xs = [.ref a] ∧ H a = some (SetK P w a S n) ∧ Q (.int (n : Nat)) H
theorem cr_lenK : CallR X (.builtin "len") (rLenK X.prog X.w) := by
  intro pins s σ H xs us Q I rs ⟨a, S, n, e, h, q⟩
  subst e
  obtain ⟨u, rfl, ru⟩ := vals1 rs
  obtain rfl : u = Value.ref a := ru
  obtain ⟨o, es, ep, t, ho, hex, hd, _, _, hb, hf, hn⟩ := setK_get I h
  exact call_len_set ho hex hd hf (by unfold scanBound at hb; omega) ⟨.int n, H, I.tok _, ⟨_, by rw [hn]⟩, q⟩
theorem tSc_of {K : Kx} {us vs : List Nat} {σ : St} {H : Hp} {Q : VK} (hv : ∀ i ∈ us, i ∈ vs) (q : rd K (fLenSc fa pt ft f vs) σ H Q) : tScK K.P K.w (rdI K fa) (rdG K us pt) (rdT K ft) (rd K f) vs σ H fun x H' => rLenK K.P K.w [x] H' Q := by
  obtain ⟨b, g, s, v, s', m, e, k⟩ := q
  obtain ⟨ts, s1, e1, e⟩ := bind_ok e
  obtain ⟨ks, s2, e2, e⟩ := bind_ok e
  cases e
  refine ⟨b, g, s, ts, s1, m, e1, fun g1 H1 J m1 t1 it fit D hD => ?_⟩
  have mD := m1.hide (ho := scO K.P K.w D []) hD trivial
  have hbD := m1.hidn' hD
  have tD : Step g1 H1 { g1 with mu := D :: g1.mu } (upd H1 D (scO K.P K.w D [])) := step_new hD
  refine ⟨fun i n H' => n = ts.length - i ∧ i ≤ ts.length ∧ ∃ g3 s3 σ3 acc, Sim K (b.hide D (scO K.P K.w D acc)) g3 s3 σ3 H' ∧ (σ3.length = σ.length ∧ ∀ i : Nat, i ∉ vs → σ3[i]? = σ[i]?) ∧ Step g1 H1 g3 H' ∧ loopSc pt ft f vs acc (ts.drop i) s3 = .ok ks s2,
    ⟨_, rfl, Nat.zero_le _, _, s1, σ, [], mD, ⟨rfl, fun _ _ => rfl⟩, tD, by simpa using e2⟩, ?_⟩
  rintro i n H2 ⟨rfl, hi, g3, s3, σ3, acc, m3, ⟨l3, o3⟩, t3, e3⟩
  obtain ⟨it1, it2⟩ := it g3 H2 t3
  by_cases hl : i = ts.length
  · subst hl
    rw [List.drop_length] at e3
    cases e3
    have m4 : Sim K b g3 s2 σ3 H2 := m3.rehid rfl rfl fun q h => m3.hidn q (List.mem_cons_of_mem _ h)
    exact .inl ⟨it2, D, _, _, rfl, (m3.hidn (D, scO K.P K.w D ks) (List.mem_cons_self ..)).1, k g3 H2 _ (m1.rest m4 t3 l3 fun i hi => o3 i hi) (t1.trans t3) (.int _)⟩
  · have hlt : i < ts.length := Nat.lt_of_le_of_ne hi hl
    have hx : ts[i]? = some ts[i] := List.getElem?_eq_getElem hlt
    rw [List.drop_eq_getElem_cons hlt] at e3
    obtain ⟨_, s4, e4, e3⟩ := bind_ok (show (pt ts[i] (s3.wipe vs)).bind (fun _ s1 => (ft s1).bind fun k s2 => if k = true then (f s2).bind fun y s3 => if isKeyT y = true ∧ isTupT y = false ∧ acc.length < 50 then loopSc pt ft f vs (scAdd acc y) (ts.drop (i + 1)) s3 else .no else loopSc pt ft f vs acc (ts.drop (i + 1)) s2) = .ok ks s2 from e3)
    obtain ⟨kk, s5, e5, e3⟩ := bind_ok e3
    obtain ⟨go, yl⟩ := it1 i _ hx
    refine .inr ⟨go, fun H' => ∃ g3 s3 σ3 acc, Sim K (b.hide D (scO K.P K.w D acc)) g3 s3 σ3 H' ∧ (σ3.length = σ.length ∧ ∀ i : Nat, i ∉ vs → σ3[i]? = σ[i]?) ∧ Step g1 H1 g3 H' ∧ loopSc pt ft f vs acc (ts.drop (i + 1)) s3 = .ok ks s2,
      fun H' ⟨g3, s3, σ3, a3, q1, q2, q3, q4⟩ => ⟨_, by omega, rfl, hlt, g3, s3, σ3, a3, q1, q2, q3, q4⟩, fun x H3 hy => ?_⟩
    obtain ⟨ext, rx⟩ := yl x H3 hy
    have t23 : Step g3 H2 g3 H3 := Step.ext ext
    have m4 : Sim K (b.hide D (scO K.P K.w D acc)) g3 (s3.wipe vs) (L2.wipe σ vs) H3 := (m3.ext ext).wipe (by rw [wipe_len, l3]) fun j hj => by rw [wipe_get hj, o3 j hj]
    refine ⟨_, g3, _, _, s4, m4, rx, e4, fun g5 σ5 H5 u5 m5 t5 => ?_⟩
    have o5 : σ5.length = σ.length ∧ ∀ i : Nat, i ∉ vs → σ5[i]? = σ[i]? := ⟨by rw [u5.1, wipe_len], fun j hj => by rw [u5.2 j fun q => hj (hv j q), wipe_get hj]⟩
    refine ⟨wipe_eq o5.1 o5.2, _, g5, s4, kk, s5, m5, e5, fun g6 H6 m6 t6 => ?_⟩
    have tt : Step g1 H1 g6 H6 := t3.trans (t23.trans (t5.trans t6))
    cases kk with
    | false =>
      rw [if_neg Bool.false_ne_true] at e3
      refine iteF ?_
      exact ⟨g6, s5, σ5, acc, m6, o5, tt, e3⟩
    | true =>
      rw [if_pos rfl] at e3
      refine iteT ?_
      obtain ⟨y, s7, e7, e3⟩ := bind_ok e3
      split at e3
      case isFalse => cases e3
      rename_i cnd
      refine ⟨_, g6, s5, y, s7, m6, e7, fun g7 H7 V7 m7 t7 r7 => ?_⟩
      obtain ⟨c, rfl, rfl⟩ := key_plain r7 cnd.1 cnd.2.1
      have hD7 := (m7.hidn (D, scO K.P K.w D acc) (List.mem_cons_self ..)).1
      obtain ⟨m8, t8⟩ := m7.grow (ho' := scO K.P K.w D (scAdd acc (kT c))) trivial hbD
      refine ⟨c, _, _, rfl, hD7, by have := cnd.2.2; unfold scanBound; omega, ?_⟩
      rw [scO_add]
      exact ⟨g7, s7, σ5, _, m8, o5, tt.trans (t7.trans t8), e3⟩
theorem fe_lenSc {scope : Scope} {own : List (Str × Nat)} {us : List Nat} (hg0 : Gl X "len") (hm : X.mg "len" = none) (hc : X.calm = true) (hN : X.N.Nodup) (hi : FI X tg iter fa) (ok : BlkOk X.N X.env.scope scope own) {ifs : List Expr}
    (hg : ∀ (s : Shared) (H : Hp) (C : Addr) (cl : List (Str × Addr)) (fp : List Addr), FG (X.blk s H scope (compEnvC scope cl C X.env) fp) tg us pt) (ht : ∀ (s : Shared) (H : Hp) (C : Addr) (cl : List (Str × Addr)) (fp : List Addr), FTs (X.blk s H scope (compEnvC scope cl C X.env) fp) ifs ft)
    (he : ∀ (s : Shared) (H : Hp) (C : Addr) (cl : List (Str × Addr)) (fp : List Addr), FE (X.blk s H scope (compEnvC scope cl C X.env) fp) elt f) (hv : (us.all fun i => (own.map (·.2)).contains i) = true := by rfl) (hs : ∀ x, foldedSetIterable iter X.env x = pure x := by intro _; rfl)
    (hst : starEach (.SetComp elt [⟨tg, iter, ifs, 0⟩] scope pos :: []) X.env = (false, eval (.SetComp elt [⟨tg, iter, ifs, 0⟩] scope pos) X.env) :: starEach [] X.env := by rfl) {p2 : Pos} :
    FE X (.Call (.Name "len" p) [.SetComp elt [⟨tg, iter, ifs, 0⟩] scope pos] [] p2) (fLenSc fa pt ft f (own.map (·.2))) :=
  pe_mono (pe_callB cr_lenK hg0 hm (by decide +kernel) (pa_cons (pe_scK hc hN hi ok hg ht he hs) pa_nil hst) (by decide) (by decide) hst (by rfl)) fun _ _ _ q => tSc_of (fun i hi => by simpa using List.all_eq_true.mp hv i hi) q
end
end L2.Z
set_option Elab.async false
set_option linter.all false
set_option maxRecDepth 100000
set_option maxHeartbeats 3200000
namespace L2.Z
open PySem PySem.Spec PyProof.Rows
def ddAdd (a : List Str) (x : Str) : List Str := if a.any (· == x) = true then a else a ++ [x]
def ddS (l : List Str) : List Str := l.foldl ddAdd []
theorem ddS_take {xs : List Str} {i : Nat} (h : i < xs.length) : ddS (xs.take (i + 1)) = ddAdd (ddS (xs.take i)) (xs.getD i Str.empty) := by
  unfold ddS
  rw [show xs.take (i + 1) = xs.take i ++ [xs[i]] from (List.take_append_getElem h).symm, List.foldl_append, List.getD_eq_getElem?_getD, List.getElem?_eq_getElem h]
  rfl
theorem ddS_len : ∀ (l : List Str) (a : List Str), (l.foldl ddAdd a).length ≤ a.length + l.length
  | [], a => by simp
  | x :: r, a => by
    have := ddS_len r (ddAdd a x)
    have h2 : (ddAdd a x).length ≤ a.length + 1 := by
      unfold ddAdd
      split <;> simp
    simp only [List.foldl_cons, List.length_cons]
    omega
/-- the text of a set's entry -/
def txk (e : Int × Value) : Str := match e.2 with
  | .str z _ => z
  | _ => Str.empty
def TxE (P : Program) (w : World) (e : Int × Value) : Prop := ∃ z t, e = ((PySem.strKind P w).hash z, Value.str z t)
/-- the set of the texts ks at a; its table rises -/
def SetX (P : Program) (w : World) (h : Heap) (a : Addr) (ks : List Str) : Prop :=
  ∃ o es ep t, h.get? a = some o ∧ o.ExactSet ∧ o.data = .set es ep t ∧ (∀ e ∈ es.toList, TxE P w e) ∧ (es.toList.map txk).Perm ks ∧ es.size < scanBound ∧ t.fits es.size = true ∧ Ris t.place.toList ∧ (w.params.followText "set-order" = true ∨ t.led = true)
section
variable {P : Program} {w : World}
theorem tx_elems {l : List (Int × Value)} (g : ∀ e ∈ l, TxE P w e) : ElemsOf (PySem.strKind P w) l := fun e m => by
  obtain ⟨z, t, rfl⟩ := g e m
  exact ⟨⟨z, strKind_is P w z t, rfl⟩, rfl⟩
theorem tx_is {e : Int × Value} (g : TxE P w e) {k : Str} : (PySem.strKind P w).is k e.2 = true ↔ txk e = k := by
  obtain ⟨z, t, rfl⟩ := g
  rw [KeyKind.is_eq_decide (strKind_is P w z t) k, decide_eq_true_iff]
  exact eq_comm
theorem SetX.keep {h h' : Heap} {a : Addr} {ks : List Str} (x : SetX P w h a ks) (q : ∀ o, h.get? a = some o → h'.get? a = some o) : SetX P w h' a ks := by
  obtain ⟨o, es, ep, t, ho, r⟩ := x
  exact ⟨o, es, ep, t, q o ho, r⟩
/-- .. with one text more, which the table did not have -/
theorem setX_tail {A : Around} {E : Value → Shared → Prop} {s : Shared} {a : Addr} {o : Obj} {es es1 : Array (Int × Value)} {ep : Nat} {t t2 : SetTable} {ks : List Str} {g : Bool → Sem Unit} {wd : Bool} {R : Option Bool → Shared → Prop}
    (hg : ∀ (b : Bool) (s₁ : Shared) (Z : Unit → Shared → Prop), Z () s₁ → wpAny (model P w) A (g b) Z E s₁) (ho : s.heap.get? a = some o) (hx : o.ExactSet) (hd : o.data = .set es ep t) (g1 : ∀ e ∈ es1.toList, TxE P w e) (pk : (es1.toList.map txk).Perm ks)
    (hb : es1.size < scanBound) (hf : t2.fits es1.size = true) (hr : Ris t2.place.toList) (hl : w.params.followText "set-order" = true ∨ t2.led = true) (fin : ∀ h', Heap.SameBut a s.heap h' → SetX P w h' a ks → R (some true) { s with heap := h' }) :
    wpAny (model P w) A (do
        storeSet a es1 t2; if (!wd && t2.tooFull) = true then do
            g (relayAll t2 es1 (SetTable.grown es1.size)).2.2; storeSet a (relayAll t2 es1 (SetTable.grown es1.size)).1 (relayAll t2 es1 (SetTable.grown es1.size)).2.1; pure (some true)
          else pure (some true)) R E s := by
  have q1 := store_at (es' := es1) (t' := t2) ho hd; have b1 := Heap.SameBut.update s.heap a (Obj.putSet es1 t2)
  refine wpAny_bind (wpAny_storeSet_of ho hd (by
    split
    · have r1 := relayAll_perm t2 es1 (SetTable.grown es1.size); have r2 := relayAll_fits t2 es1 (SetTable.grown es1.size); have r3 := relayAll_ris t2 es1 (SetTable.grown es1.size); have r4 := relayAll_led t2 es1 (SetTable.grown es1.size)
      generalize relayAll t2 es1 (SetTable.grown es1.size) = Z at r1 r2 r3 r4 ⊢; obtain ⟨es2, t3, gv⟩ := Z; dsimp only at r1 r2 r3 r4 ⊢
      have z : es2.size = es1.size := by rw [← Array.length_toList, r1.length_eq, Array.length_toList]
      refine wpAny_bind (hg _ _ _ (wpAny_bind (wpAny_storeSet_of q1 rfl (wpAny_pure (fin _ (b1.trans (Heap.SameBut.update _ a _)) ⟨_, es2, _, t3, store_at (es' := es2) (t' := t3) q1 rfl, hx, rfl, fun e m => g1 e (r1.mem_iff.mp m), (r1.map txk).trans pk, by rw [z]; exact hb, r2, r3, hl.imp id fun v => by rw [r4]; exact v⟩)) (fits_of_scanBound (by rw [z]; exact hb)))))
    · exact wpAny_pure (fin _ b1 ⟨_, es1, _, t2, q1, hx, rfl, g1, pk, hb, hf, hr, hl⟩)) (fits_of_scanBound hb))
theorem setX_add {A : Around} {E : Value → Shared → Prop} {s : Shared} {a : Addr} {ks : List Str} {x : Str} {tk : Tok} {Q : Bool → Shared → Prop} (R : SetX P w s.heap a ks) (room : ks.length + 1 < scanBound)
    (hQ : ∀ b h', Heap.SameBut a s.heap h' → SetX P w h' a (ddAdd ks x) → Q b { s with heap := h' }) : wpAny (model P w) A (setAddHashed a (.str x tk) ((PySem.strKind P w).hash x)) Q E s := by
  obtain ⟨o, es, ep, t, ho, hx, hd, g, pk, hb, hf, hr, hl⟩ := id R
  have key : (PySem.strKind P w).is x (.str x tk) = true := strKind_is P w x tk
  have el := tx_elems g
  unfold setAddHashed setAddHashedIn; refine wpAny_holding (wpAny_bind (wpAny_setState_of ho hd hf ?_))
  dsimp only; rw [byScan_of rfl hb el]; simp only [↓reduceIte]
  unfold setAddByScan; refine wpAny_bind (wpAny_bind (wpAny_rule (wpAny_bind (wpAny_setScan_of key ho hd hf el ?_))))
  cases fi : es.toList.findIdx? (fun e => (PySem.strKind P w).is x e.2) with
  | some j =>
    obtain ⟨hj, pj, _⟩ := List.findIdx?_eq_some_iff_getElem.mp fi
    have mem : x ∈ ks := pk.mem_iff.mp (List.mem_map.mpr ⟨es.toList[j], List.getElem_mem hj, (tx_is (g _ (List.getElem_mem hj))).mp pj⟩)
    have e : ddAdd ks x = ks := by
      unfold ddAdd
      rw [if_pos (show (ks.any fun y => y == x) = true from List.any_eq_true.mpr ⟨x, mem, beq_self_eq_true x⟩)]
    refine wpAny_pure (wpAny_pure (hQ _ s.heap (Heap.SameBut.refl a s.heap) ?_))
    rw [e]; exact R
  | none =>
    have no : x ∉ ks := fun m => by
      obtain ⟨e, m1, m2⟩ := List.mem_map.mp (pk.mem_iff.mpr m)
      have c := List.findIdx?_eq_none_iff.mp fi e m1
      rw [(tx_is (g e m1)).mpr m2] at c; cases c
    have eq : ddAdd ks x = ks ++ [x] := by
      unfold ddAdd; rw [if_neg]
      intro q; obtain ⟨y, y1, y2⟩ := List.any_eq_true.mp q
      exact no (eq_of_beq y2 ▸ y1)
    have hg : ∀ (b : Bool) (s₁ : Shared) (Z : Unit → Shared → Prop), Z () s₁ → wpAny (model P w) A (match b with | true => rule "set.scan.the-table-gave-way" | false => pure ()) Z E s₁ := fun b s₁ Z q => by cases b <;> first | exact wpAny_pure q | exact wpAny_rule q
    have r1 := layNew_perm t es ((PySem.strKind P w).hash x) (.str x tk); have r2 := layNew_fits t es ((PySem.strKind P w).hash x) (.str x tk); have r3 := layNew_ris t es ((PySem.strKind P w).hash x) (.str x tk) hr; have r4 := layNew_led t es ((PySem.strKind P w).hash x) (.str x tk)
    dsimp only; generalize layNew t es ((PySem.strKind P w).hash x) (.str x tk) = Z at r1 r2 r3 r4 ⊢; obtain ⟨es1, t1, wd, gv⟩ := Z; dsimp only at r1 r2 r3 r4 ⊢
    rw [Array.toList_push] at r1
    have g1 : ∀ e ∈ es1.toList, TxE P w e := fun e m => by
      rcases List.mem_append.mp (r1.mem_iff.mp m) with m | m
      · exact g e m
      · rw [List.mem_singleton.mp m]; exact ⟨x, tk, rfl⟩
    have p1 : (es1.toList.map txk).Perm (ks ++ [x]) := by
      refine (r1.map txk).trans ?_
      rw [List.map_append]
      exact pk.append_right _
    have z : es1.size = ks.length + 1 := by
      have := p1.length_eq
      rw [List.length_map, Array.length_toList, List.length_append] at this; exact this
    have b1 : es1.size < scanBound := by rw [z]; exact room
    have l1 : w.params.followText "set-order" = true ∨ t1.led = true := hl.imp id fun v => by rw [r4]; exact v
    refine wpAny_bind (hg _ _ _ ?_)
    split
    · refine wpAny_bind ?_; rw [hashByValue_scannable 8 rfl]; refine wpAny_pure (setX_tail (ks := ks ++ [x]) hg ho hx hd g1 p1 b1 ?_ ?_ ?_ fun h' sb q => ?_)
      · split <;> first | exact r2 | exact SetTable.fits_plain_off r2
      · split <;> exact r3
      · split <;> exact l1
      · dsimp only; exact wpAny_pure (hQ _ h' sb (by rw [eq]; exact q))
    · refine wpAny_bind (wpAny_pure ?_); simp only [↓reduceIte]; refine setX_tail (ks := ks ++ [x]) hg ho hx hd g1 p1 b1 r2 r3 l1 fun h' sb q => ?_
      dsimp only; exact wpAny_pure (hQ _ h' sb (by rw [eq]; exact q))
end
section
variable {prog : Program} {w : World} {A : Around} {R : Result → Shared → Prop} {I : Addr} {fp wr : List Addr} {G : Array GenState → Array GenState → Prop} {n : Nat} {P : Nat → Value → Prop} {St : Nat → Shared → Prop}
theorem loopTx (W : WalksS prog w A.in1 I fp wr G n P St) (S : Addr) (hSf : S ∉ fp) (xs : List Str) (hz : xs.length = n) (hb : n + 1 < scanBound) (hv : ∀ i v, P i v → ∃ t, v = .str (xs.getD i Str.empty) t) :
    ∀ (k i : Nat) (s : Shared), n - i = k → i ≤ n → St i s → SetX prog w s.heap S (ddS (xs.take i)) →
      (∀ s', Moved (S :: wr) G s s' → SetX prog w s'.heap S (ddS (xs.take n)) → R (.ok (.ret .none)) s') →
      codeAny (model prog w) A (.builtin "set.update.loop" ⟨[.ref S, .ref I], []⟩) R s := by
  have hw : S ∉ wr := fun h => hSf (W.sub _ h)
  have sub : ∀ b ∈ wr, b ∈ S :: wr := fun b q => List.mem_cons_of_mem _ q
  intro k
  induction k with
  | zero =>
    intro i s hk hi st hS hR
    obtain rfl : i = n := by omega
    refine codeAny_builtin F.entry_set_update_loop (by
      rw [Around.under_plainId F.plain_set_update_loop _]
      exact wpAny_bind (W.done s _ _ st fun s' hm => wpAny_pure (hR s' (hm.mono sub) (hS.keep fun o => hm.heap S o hw))))
  | succ k ih =>
    intro i s hk hi st hS hR
    have hlt : i < n := by omega
    refine codeAny_builtin F.entry_set_update_loop ?_; rw [Around.under_plainId F.plain_set_update_loop _]
    refine wpAny_bind (W.item i s _ _ hlt st fun v s' hP st' hm => ?_)
    obtain ⟨t, rfl⟩ := hv i v hP
    show wpAny _ A.in1 (holding [Value.str (xs.getD i Str.empty) t] (setAdd S (.str (xs.getD i Str.empty) t)) >>= _) _ _ s'
    refine wpAny_bind (wpAny_holding ?_); unfold setAdd
    have hl := ddS_len (xs.take i) []
    rw [List.length_take] at hl
    refine wpAny_holding (wpAny_bind ((PySem.strKind prog w).pyHash (k := xs.getD i Str.empty) (strKind_is _ _ _ _) (setX_add (s := { s' with toks := s'.toks + 1 }) (hS.keep fun o => hm.heap S o hw) (by unfold ddS; simp at hl; omega) fun b h' sb hS2 => ?_)))
    rw [← ddS_take (by omega)] at hS2
    refine wpAny_pure ⟨plainId_quiet F.plain_set_update_loop _, ih (i + 1) _ (by omega) hlt (W.frame _ s' _ _ st' (Nat.le_succ _) fun b hb o e => by
      rw [sb.2 b (fun h : b = S => hSf (by rw [← h]; exact hb))]; exact e) hS2 fun s'' hm2 hS3 => ?_⟩
    refine hR s'' (Moved.trans W.gtrans ((hm.mono sub).then_heap (Nat.le_succ _) fun b o hb e => ?_) hm2) hS3
    exact (sb.2 b (fun h : b = S => hb (by rw [h]; exact List.mem_cons_self))).trans e
end
end L2.Z
set_option Elab.async false
set_option linter.all false
set_option maxRecDepth 100000
set_option maxHeartbeats 3200000
namespace L2.Z
open PySem PySem.Spec PyProof.Rows
/-- a new set, nothing in it -/
abbrev emptyS (w : World) : Obj := { cls := .type "set", dict := none, data := .set #[] 0 (.fresh 0 0 (!w.params.followText "set-order")) }
theorem setX_empty {P : Program} {w : World} {h : Heap} {a : Addr} (e : h.get? a = some (emptyS w)) : SetX P w h a [] := by
  refine ⟨_, #[], 0, _, e, ⟨rfl, rfl, rfl⟩, rfl, fun x m => by simp at m, by simp, by decide, rfl, List.Pairwise.nil, ?_⟩
  show _ ∨ (!w.params.followText "set-order") = true
  cases w.params.followText "set-order" <;> simp
section
variable {P : Program} {w : World} {A : Around} {E : Value → Shared → Prop} {s : Shared}
/-- the set's __init__ with a list of texts -/
theorem init_tx {l : Addr} {items : Array Value} {xs : List Str} (hh : A.handled = none) (hl : s.heap.IsList l items) (hi : StrsAre items.toList xs) (hb : xs.length + 1 < scanBound) {Z : Result → Shared → Prop}
    (hZ : ∀ h' tk, SetX P w h' s.heap.objs.size (ddS xs) → (∀ b o, s.heap.get? b = some o → h'.get? b = some o) → Z (.ok (.ret .none)) { s with heap := h', toks := tk }) :
    codeAny (model P w) A (.call (.builtin "set.__init__") ⟨[.ref s.heap.objs.size, .ref l], []⟩) Z { s with heap := s.heap.push (emptyS w) } := by
  have hS : (s.heap.push (emptyS w)).get? s.heap.objs.size = some (emptyS w) := Heap.get?_push_size _ rfl
  have hT : Shared.TypeIs { s with heap := s.heap.push (emptyS w) } (.ref s.heap.objs.size) "set" := ⟨_, hS, rfl⟩
  refine codeAny_call_builtin PySem.F.called_set.init.plain PySem.F.entry_set_init (check_set_init_1 hT ?_)
  obtain ⟨ol, hol, hcl, nl, hdl⟩ := hl; obtain ⟨ocls, odict, odata, oslots⟩ := ol
  simp only at hcl hdl; subst hcl; subst hdl
  have hol' : (s.heap.push (emptyS w)).get? l = some { cls := .type "list", dict := odict, data := .seq items nl, slots := oslots } := Heap.get?_push_of_some _ hol
  have k1 := PySem.F.sub_list_set; have k2 := PySem.F.sub_list_frozenset; have k3 : (Value.type "list" == Value.type "dict") = false := by decide
  have hl1 : (s.heap.push (emptyS w)).IsList l items := ⟨_, hol', rfl, nl, rfl⟩
  unfold Builtin.«set.__init__» noKeywords Builtin.Frozenset.updateFrom; generalize hPI : pyIter = PI
  wp_walk
  subst hPI; refine wpAny_pyIter_list hl1 (wpAny_bind (wpAny_runValue ?_))
  have lt : l < s.heap.objs.size := Heap.lt_size hol
  have zz : (s.heap.push (emptyS w)).objs.size = s.heap.objs.size + 1 := Heap.size_push ..
  have n1 : l ≠ (s.heap.push (emptyS w)).objs.size := by rw [zz]; exact Nat.ne_of_lt (Nat.lt_succ_of_lt lt)
  have n2 : s.heap.objs.size ∉ [(s.heap.push (emptyS w)).objs.size, l] := by
    rw [zz]; simp only [List.mem_cons, List.not_mem_nil, or_false, not_or]
    exact ⟨Nat.ne_of_lt (Nat.lt_succ_self _), Nat.ne_of_gt lt⟩
  have sz : xs.length = items.size := by rw [← StrsAre.len_eq hi, Array.length_toList]
  refine loopTx ((Walks.list (by simp [hh]) _ l n1 items).toS) s.heap.objs.size n2 xs sz (by rw [← sz]; exact hb) (fun i v hv => SS.strs_at hi i v (by rw [Array.getElem?_toList]; exact hv)) (items.size - 0) 0 _ (by omega) (Nat.zero_le _)
    ⟨⟨_, Heap.get?_push_size _ rfl, rfl, rfl⟩, hl1.push _⟩ (setX_empty (Heap.get?_push_of_some _ hS)) fun s' hm q => ?_
  obtain ⟨h', g', d', tk', os'⟩ := s'
  obtain rfl : g' = s.gens := hm.gens
  obtain rfl : d' = s.drawn := hm.drawn
  obtain rfl : os' = s.os := hm.os
  show wpAny _ _ _ _ _ _
  refine wpAny_pure (wpAny_pure ?_)
  rw [← sz, List.take_length] at q
  refine hZ h' tk' q fun b o e => hm.heap b o ?_ (Heap.get?_push_of_some _ (Heap.get?_push_of_some _ e))
  have := Heap.lt_size e
  rw [zz]; simp only [List.mem_cons, List.not_mem_nil, or_false, not_or]
  exact ⟨Nat.ne_of_lt this, Nat.ne_of_lt (Nat.lt_succ_of_lt this)⟩
theorem call_setTx {l : Addr} {items : Array Value} {xs : List Str} {Q : Value → Shared → Prop} (hh : A.handled = none) (hl : s.heap.IsList l items) (hi : StrsAre items.toList xs) (hb : xs.length + 1 < scanBound)
    (hQ : ∀ h' tk, SetX P w h' s.heap.objs.size (ddS xs) → (∀ b o, s.heap.get? b = some o → h'.get? b = some o) → Q (.ref s.heap.objs.size) { s with heap := h', toks := tk }) :
    wpAny (model P w) A (call (.type "set") [.ref l]) Q E s := by
  obtain ⟨c, tl, hmro⟩ := PySem.F.called_set.mro; have hmade := PySem.F.called_set.made; have hsub := PySem.F.called_set.sub
  refine wpAny_call (codeAny_of_tree (wpAny_pure ⟨Code.quiet_builtin _ (by decide +kernel), codeAny_builtin PySem.F.entry_type_call ?_⟩))
  rw [Around.under_plain (weight_type_call_type "set" [.ref l] []) rfl]
  have h1 := PySem.F.called_set.notType; have h2 := PySem.F.called_set.canCreate; have hct := PySem.F.typeCall_set_1 (.ref l)
  repeat (any_goals (first | assumption | wp_step))
  refine codeAny_mono (code_set_led1 (.ref l) (E := E) (Q₁ := fun obj s₁ => obj = .ref s.heap.objs.size ∧ s₁ = { s with heap := s.heap.push (emptyS w) }) ⟨rfl, rfl⟩) fun r s₁ hr => ?_
  match r, hr with
  | .error _, hr => exact hr
  | .ok .next, hr => exact hr.elim
  | .ok .brk, hr => exact hr.elim
  | .ok .cont, hr => exact hr.elim
  | .ok (.ret obj), hr =>
    obtain ⟨rfl, rfl⟩ := hr
    have hS : (s.heap.push (emptyS w)).get? s.heap.objs.size = some (emptyS w) := Heap.get?_push_size _ rfl
    have hT : Shared.TypeIs { s with heap := s.heap.push (emptyS w) } (.ref s.heap.objs.size) "set" := ⟨_, hS, rfl⟩
    have hli := PySem.F.called_set.init.lookup; have hbi := PySem.F.called_set.init.bind (.ref s.heap.objs.size)
    repeat (any_goals (first | assumption | wp_step))
    refine codeAny_mono (init_tx (Z := wants (fun r s₂ => r = .none ∧ Q (.ref s.heap.objs.size) s₂) E) (by simp [hh]) hl hi hb fun h' tk a b => ⟨rfl, hQ h' tk a b⟩) fun r₂ s₂ hr₂ => ?_
    match r₂, hr₂ with
    | .error _, hr₂ => exact hr₂
    | .ok .next, hr₂ => exact hr₂.elim
    | .ok .brk, hr₂ => exact hr₂.elim
    | .ok .cont, hr₂ => exact hr₂.elim
    | .ok (.ret r), hr₂ =>
      obtain ⟨rfl, hq⟩ := hr₂
      repeat (any_goals (first | assumption | wp_step))
end
end L2.Z
set_option Elab.async false
set_option linter.all false
set_option maxRecDepth 100000
set_option maxHeartbeats 3200000
namespace L2.Z
open PySem PySem.Spec PyProof.Rows
def SetXO (P : Program) (w : World) (a : Addr) (ks : List Str) : HO := .ext fun h => SetX P w h a ks
theorem setX_new {P : Program} {w : World} {H : Hp} {h : Heap} {a : Addr} {ks : List Str} (R : SetX P w h a ks) : ObjOk P w H h a (SetXO P w a ks) := by
  have ⟨o, _, _, _, ho, _⟩ := R
  exact ⟨R, ⟨o, ho⟩, fun h1 h2 p k => p.keep k⟩
section
variable {X : Cx} {pins : List (Addr × Obj)} {σ : St} {H : Hp} {s : Shared} {g : G}
def rSetTx (K : Kx) : List V → Hp → VK → Prop := fun xs H Q => ∃ (a : Addr) (ys : List Str), xs = [.ref a] ∧ SqL K.K H a (ys.map V.str) ∧ ys.length + 1 < scanBound ∧ ∀ p, H p = none → Q (.ref p) (upd H p (SetXO K.P K.w p (ddS ys)))
theorem cr_setTx (hc : X.calm = true) : CallR X (.type "set") (rSetTx X.kx) := by
  intro pins s σ H xs us Q I rs ⟨a, ys, e, h1, hb, q⟩
  subst e
  obtain ⟨u, rfl, ru⟩ := vals1 rs
  obtain rfl : u = Value.ref a := ru
  obtain ⟨its, rv, pl, z⟩ := I.list h1
  exact call_setTx (I.ok.hd hc) pl.isList (Vals.strs rv) hb fun h' tk new k => ⟨.ref _, upd H s.heap.objs.size (SetXO X.prog X.w s.heap.objs.size (ddS ys)), I.laid (t' := tk) k (Nat.le_refl _) (setX_new new), rfl, q _ (I.hok.fresh (Nat.le_refl _))⟩
theorem dataLe_str {a b : Str} : PySem.W.dataLe false toD (.str a) (.str b) = !decide (b.cps.toList < a.cps.toList) := by rw [← PySem.W.dataLt_str]; rfl
end
theorem srtOk_strs {l : List Str} (h : l.length ≤ 4000) : srtOk (l.map T.str) = true := by
  have a1 : ∀ l : List Str, toDs (l.map T.str) = l.map PyData.str := fun l => by rw [toDs_map, List.map_map]; rfl
  have a2 : ∀ l : List Str, PyData.plainAll (l.map PyData.str) = true := fun l => by
    induction l with
    | nil => rfl
    | cons x l ih => rw [List.map_cons, PyData.plainAll, ih]; rfl
  have a3 : ∀ l : List Str, PyData.depthAll (l.map PyData.str) ≤ 100 := fun l => by
    induction l with
    | nil => simp [PyData.depthAll]
    | cons x l ih => rw [List.map_cons, PyData.depthAll]; simp only [PyData.depth]; omega
  unfold srtOk
  simp only [Bool.and_eq_true, decide_eq_true_eq]
  refine ⟨⟨⟨⟨?_, by rw [List.length_map]; omega⟩, ?_⟩, ?_⟩, by rw [a1]; exact a3 l⟩
  · show (toD (.lst (l.map T.str))).plain = true
    rw [toD, PyData.plain, a1]; exact a2 l
  · rw [a1]
    refine List.all_eq_true.mpr fun d hd => List.all_eq_true.mpr fun e he => ?_
    obtain ⟨_, _, rfl⟩ := List.mem_map.mp hd
    obtain ⟨_, _, rfl⟩ := List.mem_map.mp he
    rfl
  · rw [Bool.or_eq_true]
    right
    refine List.all_eq_true.mpr fun d hd => ?_
    obtain ⟨_, _, rfl⟩ := List.mem_map.mp hd
    rfl
section
variable {X : Cx} {pos p pos2 p2 : Pos} {e : Expr} {fa : Ea}
end
end L2.Z
set_option Elab.async false
set_option linter.all false
set_option maxRecDepth 100000
set_option maxHeartbeats 3200000
namespace L2.Z
open PySem PySem.Spec PyProof.Rows
/-- at the key z of the dict at d stands the def that is F -/
structure TabE (P : Program) (w : World) (K : PySem.W.Frag) (mg : Str → Option Value) (base : Heap) (k : Nat) (d : Addr) (ps : List Str) (z : Str) (F : Fd) : Prop where
  ex : ∃ f fd, PySem.W.nsIn K d z = some (some (.ref f)) ∧ FnG P w K mg base k f fd ps F ∧ LenF ps.length F ∧ PySem.W.keepIn K (.ref f) = true ∧ Binds K fd ps []
section
variable {X : Cx} {k i : Nat} {ps : List Str} {x y D : Str} {p p2 p3 pos pos2 pos3 : Pos} {a e : Expr} {es : List Expr} {fk : Ev} {fa : Ea} {d n : Nat} {tbl : List (Str × Fd)} {ents : Array DictEntry}
end
end L2.Z
set_option Elab.async false
set_option linter.all false
set_option maxRecDepth 100000
set_option maxHeartbeats 3200000
namespace L2.Z
open PySem PySem.Spec PyProof.Rows
/-- a heap that knows the script alone, and what lies there -/
structure Bare1 (P : Program) (w : World) (K : PySem.W.Frag) (h : Heap) (a : Addr) (ns : List Int) (H : Hp) : Prop where
  at_ : Fz ⟨K, P, w⟩ H a (ns.map V.int)
  ok : HOk P w H h
  one : ∀ b, H b ≠ none → b = a ∧ K.lookup a = none ∧ ∃ o xs, H b = some (.frz o (.lst xs))
theorem bare_none {P : Program} {w : World} {K : PySem.W.Frag} {h : Heap} {a : Addr} {ns : List Int} {o : Obj} {its : Array Value} {n : Nat} (hk : K.lookup a = some o) (h1 : o.cls = .type "list") (h2 : o.dict = none) (h3 : o.data = .seq its n) (h4 : its.size ≤ sizeLine) (h5 : Vals (ns.map V.int) its.toList) :
    Bare1 P w K h a ns (fun _ => none) := ⟨.inr ⟨o, its, n, hk, h1, h2, h3, h4, h5⟩, fun b u (z : (none : Option HO) = some u) => (nomatch z), fun b z => absurd rfl z⟩
theorem bare_one {P : Program} {w : World} {K : PySem.W.Frag} {h : Heap} {a : Addr} {ns : List Int} {vs : List Value} (ho : h.get? a = some { cls := .type "list", data := .seq vs.toArray }) (hv : Vals (ns.map V.int) vs) (hl : ns.length ≤ sizeLine) (hk : K.lookup a = none) :
    Bare1 P w K h a ns (upd (fun _ => none) a (.frz { cls := .type "list", data := .seq vs.toArray } (.lst (ns.map V.int)))) := by
  refine ⟨.inl ⟨_, upd_same⟩, fun b u z => ?_, fun b z => ?_⟩
  · by_cases e : b = a
    · subst e; rw [upd_same] at z; cases z
      exact ⟨ho, by rw [List.length_map]; exact hl, vs, _, hv, ho⟩
    · rw [upd_ne e] at z; cases z
  · by_cases e : b = a
    · subst e; exact ⟨rfl, hk, _, _, upd_same⟩
    · rw [upd_ne e] at z; exact absurd rfl z
section
variable {P : Program} {w : World} {K : PySem.W.Frag} {mg mb : Str → Option Value} {k : Nat} {fa a : Addr} {fd : FuncData} {x : Str} {F : Fd} {s1 : Shared} {ns : List Int} {H : Hp}
/-- the call over such a heap -/
theorem law_over (KX : K.In s1.heap) (h1 : s1.heap.Ns mainGlobals mg) (h2 : s1.heap.Ns builtinsNs mb) (h3 : ∀ y : Str, y ≠ "__name__" → mb y = bootBuiltins y) (h4 : s1.heap.NoLimit) (h5 : s1.gens = #[]) (hr : Room k callerA)
    (B : Bare1 P w K s1.heap a ns H) (hs : ∃ its : List Value, s1.heap.get? a = some { cls := .type "list", data := .seq its.toArray }) (GF : ∀ base : Heap, K.In base → base.Ns mainGlobals mg → FnG P w K mg base k fa fd [x] F) (hb : ∀ (s : Shared) (u : Value), BindsTo s fd ⟨[u], []⟩ [(x, u)])
    (hF : ∃ s', F [.lst (ns.map T.int)] [] = .ok (.val (.bl true)) s') : codeAny (model P w) callerA (.call (.ref fa) ⟨[.ref a], []⟩) (fun r s' => r = .ok (.ret (.bool true)) ∧ OldK s1.heap s'.heap ∧ s'.os = s1.os ∧ AllBare s'.gens) s1 := by
  obtain ⟨its, hs⟩ := hs
  have hid : ∀ {b : Addr} {m : Str → Option Value}, s1.heap.Ns b m → (hidT s1.heap H).Ns b m := fun {b m} ⟨o, es, ep, e, d, r⟩ => ⟨o, es, ep, hidT_get e (by
    cases q : H b with
    | none => rfl
    | some u =>
      obtain ⟨rfl, _⟩ := B.one b (by rw [q]; simp)
      rw [hs] at e; cases e
      exact nomatch (show Data.seq its.toArray _ = Data.dict es ep from d)), d, r⟩
  have KB : K.In (hidT s1.heap H) := fun b o e => hidT_get (KX b o e) (by
    cases q : H b with
    | none => rfl
    | some u =>
      obtain ⟨rfl, z, _⟩ := B.one b (by rw [q]; simp)
      rw [z] at e; cases e)
  have env : Env0 P w K mg (hidT s1.heap H) callerA [] s1 H := ⟨rfl, ⟨KB, hid h1, ⟨mb, hid h2, h3⟩, h4.elim fun c z => ⟨c, hid z.1, z.2⟩⟩, fun b o e => of_hidT e, Nat.le_of_eq (hidT_size _ _), trivial, fun b z => absurd (show b ∈ ([] : List Addr) from z) (by simp), B.ok, .of_eq h5⟩
  obtain ⟨s', hF⟩ := hF
  have word : spI ⟨K, P, w⟩ 1 F [.ref a] H (fun v _ => v = .bl true) (fun _ _ _ => False) := by
    have rep : RepL ⟨K, P, w⟩ G.nil H (ns.map V.int) (ns.map T.int) := by
      clear hF B hid KB env
      induction ns with
      | nil => exact .nil
      | cons n r ih => exact .cons (.int n) ih
    refine ⟨rfl, _, G.nil, _, _, [.lst (ns.map T.int)], .val (.bl true), s', Sim.nilStart H, .cons (.lstF B.at_ rep) .nil, hF, fun g' H' V s2 σ2 m es r => rep_bl r⟩
  refine codeAny_mono ((GF _ KB (hid h1)).run callerA [] s1 H ⟨[.ref a], []⟩ [.ref a] [.ref a] _ (fun _ _ _ => False) rfl hr env (hb s1 (.ref a)) (.cons rfl .nil) word) fun r s2 out => ?_
  match r, out with
  | .error e, out =>
    obtain ⟨_, _, _, _, _, _, _, _, _, _, _, _, z⟩ := out
    exact z.elim
  | .ok .next, out => exact out.elim
  | .ok .brk, out => exact out.elim
  | .ok .cont, out => exact out.elim
  | .ok (.ret u), out =>
    obtain ⟨v, H', os, bare, un, hok, rv, q⟩ := out
    obtain rfl : v = .bl true := q
    obtain rfl : u = Value.bool true := rv
    refine ⟨rfl, OldK.of_keep fun b o e => ?_, os, bare⟩
    cases q : H b with
    | none => exact un.keep b o e q (fun z => absurd (show b ∈ ([] : List Addr) from z) (by simp)) (by simp)
    | some u =>
      obtain ⟨rfl, z, ob, xs, z2⟩ := B.one b (by rw [q]; simp)
      have y := (B.ok _ _ z2).1
      rw [e] at y; cases y
      exact (hok _ _ (un.frzs _ _ _ z2)).1
/-- a def's object is one -/
theorem fund_one {qual : Str} {ps : Arguments} {body : List Stmt} {sc : Scope} {f : Addr} {f1 f2 : FuncData} (a : FunD K x qual ps body sc [] [] f f1) (b : FunD K x qual ps body sc [] [] f f2) : f1 = f2 := by
  obtain ⟨_, _, _, _, _, _, _, _, _, _, e1, l1, _⟩ := a.ex
  obtain ⟨_, _, _, _, _, _, _, _, _, _, e2, l2, _⟩ := b.ex
  have e := Option.some.inj (l1.symm.trans l2)
  have e3 := congrArg Obj.data e
  exact Data.func.inj e3
/-- THE END: a law's walk from its def's promise and what the plain function answers -/
theorem walk_ofG {l : PySem.W.OpenLaw} {n : Nat} {q : Program} {loose : List Str} {XP : (Str → Option Value) → Heap → Prop} {YP : World → Heap → Prop} {d : DefRec} (hn : l.most = some n) (hn2 : n ≤ sizeLine) (hdf : d.params.defaults = []) (hr : Room k callerA)
    (hF : ∀ ns : List Int, ns.length ≤ n → ∃ s', F [.lst (ns.map T.int)] [] = .ok (.val (.bl true)) s')
    (hG : ∀ (w : World) (mg : Str → Option Value) (fa : Addr) (h : Heap), YP w h → h.Ns mainGlobals mg → mg d.name = some (.ref fa) →
      ∃ (K : PySem.W.Frag) (fd : FuncData), K.In h ∧ (∀ (s : Shared) (u : Value), BindsTo s fd ⟨[u], []⟩ [(x, u)]) ∧ ∀ base : Heap, K.In base → base.Ns mainGlobals mg → FnG l.prog w K mg base k fa fd [x] F) :
    PySem.W.WalkO q loose XP YP l.row.toRowW d [] (fun f vs => PySem.call f vs) := by
  refine Att.attach_call hn hdf fun w s0 s1 mg mb fa o pm cd doc a vs ns G Y ho hd hcd hmg hobj hints hlen hg => ?_
  obtain ⟨K, fd, KX, hb, hG⟩ := hG w mg fa _ Y G.T.g hmg
  have lv := hints.length
  cases hk : K.lookup a with
  | some o =>
    have e := KX a o hk
    rw [hobj] at e; cases e
    exact law_over KX G.T.g G.T.b G.T.builtins G.T.nolimit hg hr (bare_none hk rfl rfl rfl (by rw [List.size_toArray, lv]; exact Nat.le_trans hlen hn2) (by simpa using vals_ints hints)) ⟨_, hobj⟩ hG hb (hF ns hlen)
  | none => exact law_over KX G.T.g G.T.b G.T.builtins G.T.nolimit hg hr (bare_one hobj (vals_ints hints) (Nat.le_trans hlen hn2) hk) ⟨_, hobj⟩ hG hb (hF ns hlen)
end
end L2.Z
set_option Elab.async false
set_option linter.all false
set_option maxRecDepth 100000
set_option maxHeartbeats 3200000
namespace L2.Z
open PySem PySem.Spec PyProof.Rows
section
variable {X : Cx} {e : Expr} {fa : Ea} {p pos tpos : Pos} {elts : List Expr} {kk : Nat}
end
/-- the plain function gives this, the store then being that -/
def Gv (F : Fd) (ts : List T) (st : List O) (v : Nw) (st' : List O) : Prop := ∃ s, F ts st = .ok v s ∧ s.st = st'
@[simp] theorem Rbind_ok {α β : Type} (a : α) (s : S) (f : α → S → R β) : (R.ok a s).bind f = f a s := rfl
@[simp] theorem ofO_some {α : Type} (a : α) (s : S) : ofO (some a) s = .ok a s := rfl
theorem callF_gv {F : Fd} {ts : List T} {s : S} {v : Nw} {st' : List O} (h : Gv F ts s.st v st') : callF F ts s = .ok v { s with st := st' } := by
  obtain ⟨s2, e, r⟩ := h
  unfold callF
  rw [e, ← r]
/-- a def's body from its start -/
def st0 (nn : Nat) (ts : List T) (st : List O) : S := ⟨ts.map Slot.val ++ List.replicate (nn - ts.length) Slot.un, [], st⟩
theorem gv_ret {np nn : Nat} {f : Sv} {ts : List T} {st : List O} {t : T} {s : S} (hl : ts.length = np) (h : f (st0 nn ts st) = .ok (.ret (.val t)) s) : Gv (mkF np nn f) ts st (.val t) s.st := by
  subst hl
  refine ⟨s, ?_, rfl⟩
  unfold mkF
  rw [if_pos rfl]
  unfold st0 at h
  rw [h]
theorem gv_nx {np nn : Nat} {f : Sv} {ts : List T} {st : List O} {s : S} (hl : ts.length = np) (h : f (st0 nn ts st) = .ok .nx s) : Gv (mkF np nn f) ts st (.val .non) s.st := by
  subst hl
  refine ⟨s, ?_, rfl⟩
  unfold mkF
  rw [if_pos rfl]
  unfold st0 at h
  rw [h]
theorem wipeE_lengthZ (env : List Slot) : ∀ vs : List Nat, (wipeE env vs).length = env.length
  | [] => rfl
  | v :: vs => by unfold wipeE; rw [List.length_set, wipeE_lengthZ env vs]
theorem wipeE_getZ (env : List Slot) : ∀ (vs : List Nat) (i : Nat), (wipeE env vs)[i]? = if i ∈ vs ∧ i < env.length then some Slot.un else env[i]?
  | [], i => by simp [wipeE]
  | v :: vs, i => by
    unfold wipeE
    rw [List.getElem?_set, wipeE_lengthZ, wipeE_getZ env vs i]
    by_cases h : v = i
    · subst h
      by_cases l : v < env.length
      · simp [l]
      · simp [l]
    · simp only [h, if_false, List.mem_cons]
      by_cases m : i ∈ vs
      · simp [m]
      · simp [m, Ne.symm h]
theorem restE_lengthZ (o n : List Slot) : ∀ vs : List Nat, (restE o n vs).length = n.length
  | [] => rfl
  | v :: vs => by unfold restE; rw [List.length_set, restE_lengthZ o n vs]
theorem restE_getZ (o n : List Slot) : ∀ (vs : List Nat) (i : Nat), (restE o n vs)[i]? = if i ∈ vs ∧ i < n.length then some (keepV o[i]?) else n[i]?
  | [], i => by simp [restE]
  | v :: vs, i => by
    unfold restE
    rw [List.getElem?_set, restE_lengthZ, restE_getZ o n vs i]
    by_cases h : v = i
    · subst h
      by_cases l : v < n.length
      · simp [l]
      · simp [l]
    · simp only [h, if_false, List.mem_cons]
      by_cases m : i ∈ vs
      · simp [m]
      · simp [m, Ne.symm h]
theorem rest_wipe {vs : List Nat} {env env' : List Slot} (h : wipeE env' vs = wipeE env vs) : restE env env' vs = env := by
  have hl : env'.length = env.length := by rw [← wipeE_lengthZ env' vs, h, wipeE_lengthZ]
  refine List.ext_getElem? fun i => ?_
  rw [restE_getZ]
  by_cases m : i ∈ vs ∧ i < env'.length
  · rw [if_pos m, List.getElem?_eq_getElem (by rw [← hl]; exact m.2)]; rfl
  · rw [if_neg m]
    have e : (wipeE env' vs)[i]? = (wipeE env vs)[i]? := by rw [h]
    rw [wipeE_getZ, wipeE_getZ, if_neg m, if_neg (by rw [← hl]; exact m)] at e
    exact e
/-- what a turn at t does, from the names W -/
def Turn1 (p : Pat) (c : Et) (f : Ev) (vs : List Nat) (W : List Slot) (lo : List O) (st : List O) (t : T) (y : Option T) (st' : List O) : Prop :=
  ∃ s1 k s2, p t ⟨W, lo, st⟩ = .ok () s1 ∧ c s1 = .ok k s2 ∧ match y with
    | none => k = false ∧ wipeE s2.env vs = W ∧ s2.lo = lo ∧ s2.st = st'
    | some y => k = true ∧ ∃ s3, f s2 = .ok y s3 ∧ wipeE s3.env vs = W ∧ s3.lo = lo ∧ s3.st = st'
inductive Turns (p : Pat) (c : Et) (f : Ev) (vs : List Nat) (W : List Slot) (lo : List O) : List T → List T → List O → List O → Prop
  | nil {st} : Turns p c f vs W lo [] [] st st
  | skip {t ts ys st st1 st2} : Turn1 p c f vs W lo st t none st1 → Turns p c f vs W lo ts ys st1 st2 → Turns p c f vs W lo (t :: ts) ys st st2
  | cons {t y ts ys st st1 st2} : Turn1 p c f vs W lo st t (some y) st1 → Turns p c f vs W lo ts ys st1 st2 → Turns p c f vs W lo (t :: ts) (y :: ys) st st2
theorem wipe_mk {s : S} {vs : List Nat} {W : List Slot} {lo st : List O} (h1 : wipeE s.env vs = W) (h2 : s.lo = lo) (h3 : s.st = st) : s.wipe vs = ⟨W, lo, st⟩ := by
  subst h1 h2 h3; rfl
theorem loopC_turns {p : Pat} {c : Et} {f : Ev} {vs : List Nat} {W : List Slot} {lo : List O} {ts ys : List T} {st st' : List O} (h : Turns p c f vs W lo ts ys st st') : ∀ s : S, wipeE s.env vs = W → s.lo = lo → s.st = st → ∃ s', loopC p c f vs ts s = .ok ys s' ∧ wipeE s'.env vs = W ∧ s'.lo = lo ∧ s'.st = st' := by
  induction h with
  | nil => exact fun s h1 h2 h3 => ⟨s, rfl, h1, h2, h3⟩
  | skip a _ ih =>
    intro s h1 h2 h3
    obtain ⟨s1, k, s2, e1, e2, hk, w1, w2, w3⟩ := a
    obtain ⟨s', e, r⟩ := ih s2 w1 w2 w3
    refine ⟨s', ?_, r⟩
    have e0 := wipe_mk h1 h2 h3
    unfold loopC
    rw [e0, e1, Rbind_ok, e2, Rbind_ok, hk, if_neg Bool.false_ne_true]
    exact e
  | cons a _ ih =>
    intro s h1 h2 h3
    obtain ⟨s1, k, s2, e1, e2, hk, s3, e3, w1, w2, w3⟩ := a
    obtain ⟨s', e, r⟩ := ih s3 w1 w2 w3
    refine ⟨s', ?_, r⟩
    have e0 := wipe_mk h1 h2 h3
    unfold loopC
    rw [e0, e1, Rbind_ok, e2, Rbind_ok, hk, if_pos rfl, e3, Rbind_ok, e, Rbind_ok]
theorem aLc_turns {it : Ea} {p : Pat} {c : Et} {f : Ev} {vs : List Nat} {s s1 : S} {ts ys : List T} {st' : List O} (hi : it s = .ok ts s1) (h : Turns p c f vs (wipeE s1.env vs) s1.lo ts ys s1.st st') : aLc it p c f vs s = .ok ys { s1 with st := st' } := by
  obtain ⟨s', e, w1, w2, w3⟩ := loopC_turns h s1 rfl rfl rfl
  unfold aLc
  rw [hi, Rbind_ok, e, Rbind_ok]
  unfold S.rest
  rw [rest_wipe w1, w2, w3]
/-- .. that change nothing -/
theorem turns_pure {p : Pat} {c : Et} {f : Ev} {vs : List Nat} {W : List Slot} {lo st : List O} (e : T → Option T) : ∀ ts : List T, (∀ t ∈ ts, Turn1 p c f vs W lo st t (e t) st) → Turns p c f vs W lo ts (ts.filterMap e) st st
  | [], _ => .nil
  | t :: ts, h => by
    have ih := turns_pure e ts fun x m => h x (List.mem_cons_of_mem _ m)
    have h0 := h t (List.mem_cons_self ..)
    rw [List.filterMap_cons]
    cases q : e t with
    | none => rw [q] at h0; exact .skip h0 ih
    | some y => rw [q] at h0; exact .cons h0 ih
theorem aLc_map {it : Ea} {p : Pat} {f : Ev} {vs : List Nat} {s s1 : S} {ts : List T} (e : T → T) (hi : it s = .ok ts s1) (h : ∀ t ∈ ts, ∃ s2 s3, p t ⟨wipeE s1.env vs, s1.lo, s1.st⟩ = .ok () s2 ∧ f s2 = .ok (e t) s3 ∧ wipeE s3.env vs = wipeE s1.env vs ∧ s3.lo = s1.lo ∧ s3.st = s1.st) :
    aLc it p tTrue f vs s = .ok (ts.map e) s1 := by
  have := aLc_turns (c := tTrue) hi (turns_pure (fun t => some (e t)) ts fun t m => by
    obtain ⟨s2, s3, h1, h2, h3, h4, h5⟩ := h t m
    exact ⟨s2, true, s2, h1, rfl, rfl, s3, h2, h3, h4, h5⟩)
  rw [this, List.filterMap_eq_map']
theorem loopF_inv {p : Pat} {f : Sv} (P : List T → S → Prop) (h : ∀ t r s, P (t :: r) s → ∃ s1 fl s2, p t s = .ok () s1 ∧ f s1 = .ok fl s2 ∧ (fl = .nx ∨ fl = .ct) ∧ P r s2) : ∀ (ts : List T) (s : S), P ts s → ∃ s', loopF p f ts s = .ok .nx s' ∧ P [] s'
  | [], s, q => ⟨s, rfl, q⟩
  | t :: r, s, q => by
    obtain ⟨s1, fl, s2, e1, e2, hf, q2⟩ := h t r s q
    obtain ⟨s', e, z⟩ := loopF_inv P h r s2 q2
    refine ⟨s', ?_, z⟩
    unfold loopF
    rw [e1, Rbind_ok, e2, Rbind_ok]
    rcases hf with rfl | rfl <;> exact e
end L2.Z
set_option Elab.async false
set_option linter.all false
set_option maxRecDepth 100000
set_option maxHeartbeats 3200000
namespace L2.Z
open PySem PySem.Spec PyProof.Rows
section
variable (s : S) (f h l : Ev) (r fa : Ea) (c d : Et) (i : Nat) (t : T) (ts : List T) (F : Fd) (fp : Ep) (fn : En) (sf sh : Sv)
@[simp] theorem x_fC : fC t s = .ok t s := rfl
@[simp] theorem x_fVar : fVar i s = match s.env[i]? with | some (.val t) => .ok t s | _ => .no := rfl
@[simp] theorem x_aNil : aNil s = .ok [] s := rfl
@[simp] theorem x_aCons : aCons f r s = (f s).bind fun t s1 => (r s1).bind fun ts s2 => .ok (t :: ts) s2 := rfl
@[simp] theorem x_fBin (op : T → T → Option T) : fBin op f h s = (f s).bind fun x s1 => (h s1).bind fun y s2 => ofO (op x y) s2 := rfl
@[simp] theorem x_fBinF (op : T → T → Option (List T)) : fBinF op f h s = (f s).bind fun x s1 => (h s1).bind fun y s2 => ofO (op x y) s2 := rfl
@[simp] theorem x_fUn (op : T → Option T) : fUn op f s = (f s).bind fun x s1 => ofO (op x) s1 := rfl
@[simp] theorem x_fCl (op : List T → Option T) : fCl op r s = (r s).bind fun x s1 => ofO (op x) s1 := rfl
@[simp] theorem x_fClF (op : List T → Option (List T)) : fClF op r s = (r s).bind fun x s1 => ofO (op x) s1 := rfl
@[simp] theorem x_tE : tE f s = (f s).bind fun t s1 => match t with | .bl c => .ok c s1 | _ => .no := rfl
@[simp] theorem x_tAndZ : tAndZ c d s = (c s).bind fun c s1 => if c = true then d s1 else .ok false s1 := rfl
@[simp] theorem x_tOrZ : tOrZ c d s = (c s).bind fun c s1 => if c = true then .ok true s1 else d s1 := rfl
@[simp] theorem x_tNotZ : tNotZ c s = (c s).bind fun c s1 => .ok (!c) s1 := rfl
@[simp] theorem x_fIf : fIf c f h s = (c s).bind fun k s1 => if k = true then f s1 else h s1 := rfl
@[simp] theorem x_fAnd : fAnd f h s = (f s).bind fun t s1 => match t with | .bl true => h s1 | .bl false => .ok (.bl false) s1 | _ => .no := rfl
@[simp] theorem x_fNot : fNot f s = (f s).bind fun t s1 => match t with | .bl c => .ok (.bl (!c)) s1 | _ => .no := rfl
@[simp] theorem x_fChain (op op' : T → T → Option T) : fChain op op' f h l s = (f s).bind fun x s1 => (h s1).bind fun y s2 => match op x y with | some (.bl true) => (l s2).bind fun z s3 => ofO (op' y z) s3 | some (.bl false) => .ok (.bl false) s2 | _ => .no := rfl
@[simp] theorem x_fTup : fTup r s = (r s).bind fun ts s1 => if ts.length ≤ 1000 then .ok (.tup ts) s1 else .no := rfl
@[simp] theorem x_aLst : aLst r s = (r s).bind fun ts s1 => if ts.length ≤ 1000 then .ok ts s1 else .no := rfl
@[simp] theorem x_fLst : fLst r s = (r s).bind fun ts s1 => .ok (.lst ts) s1 := rfl
@[simp] theorem x_nVal : nVal f s = (f s).bind fun t s1 => .ok (.val t) s1 := rfl
@[simp] theorem x_nLst : nLst fa s = (fa s).bind fun ts s1 => .ok (.new (.lst ts)) s1 := rfl
@[simp] theorem x_sNx : sNx s = .ok .nx s := rfl
@[simp] theorem x_sSeq : sSeq sf sh s = (sf s).bind fun fl s1 => match fl with | .nx => sh s1 | o => .ok o s1 := rfl
@[simp] theorem x_sRet : sRet f s = (f s).bind fun t s1 => .ok (.ret (.val t)) s1 := rfl
@[simp] theorem x_sRetN : sRetN fn s = (fn s).bind fun n s1 => match n with | .val t => .ok (.ret (.val t)) s1 | .new o => .ok (.ret (.own s1.lo.length)) { s1 with lo := s1.lo ++ [o] } := rfl
@[simp] theorem x_sExpr : sExpr f s = (f s).bind fun _ s1 => .ok .nx s1 := rfl
@[simp] theorem x_sIf : sIf c sf sh s = (c s).bind fun k s1 => if k = true then sf s1 else sh s1 := rfl
@[simp] theorem x_set (x : Slot) : s.set i x = { s with env := s.env.set i x } := rfl
@[simp] theorem x_sSet : sSet i f s = (f s).bind fun t s1 => .ok .nx (s1.set i (.val t)) := rfl
@[simp] theorem x_sAsg (p : Pat) : sAsg p f s = (f s).bind fun t s1 => (p t s1).bind fun _ s2 => .ok .nx s2 := rfl
@[simp] theorem x_give : s.give i = match s.env[i]? with | some (.own n) => (match s.lo[n]? with | some (.lst ts) => some ⟨s.env.set i (.val (.lst ts)), s.lo.set n .dead, s.st⟩ | _ => none) | _ => none := rfl
@[simp] theorem x_sGive : sGive i sf s = match s.give i with | some s' => sf s' | none => .no := rfl
@[simp] theorem x_pName : pName i t s = .ok () (s.set i (.val t)) := rfl
@[simp] theorem x_psNil1 : psNil [] s = .ok () s := rfl
@[simp] theorem x_psCons (p : Pat) (q : Pats) : psCons p q (t :: ts) s = (p t s).bind fun _ s1 => q ts s1 := rfl
@[simp] theorem x_pTup (n : Nat) (q : Pats) : pTup n q (.tup ts) s = if ts.length = n then q ts s else .no := rfl
@[simp] theorem x_pPr (n : Nat) (q : Pats) : pTup n q (.pr ts) s = if ts.length = n then q ts s else .no := rfl
@[simp] theorem x_iLst : iLst f s = (f s).bind fun t s1 => match t with | .lst ts => .ok ts s1 | _ => .no := rfl
@[simp] theorem x_iTp : iTp f s = (f s).bind fun t s1 => match t with | .tup ts => .ok ts s1 | _ => .no := rfl
@[simp] theorem x_iRng1 : iRng1 fa s = (fa s).bind fun ts s1 => match ts with | [.int j] => (if rngOk j then .ok (rngT 0 j.toNat) s1 else .no) | _ => .no := rfl
@[simp] theorem x_tTrue : tTrue s = .ok true s := rfl
@[simp] theorem x_fCall : fCall F fa s = (fa s).bind fun ts s1 => callF F ts s1 := rfl
@[simp] theorem x_fVal : fVal fn s = (fn s).bind fun n s1 => match n with | .val t => .ok t s1 | .new (.lst ts) => .ok (.lst ts) s1 | _ => .no := rfl
@[simp] theorem x_fIsi (k : String) : fIsi k f s = (f s).bind fun t s1 => match isCls t k with | some b => .ok (.bl b) s1 | none => .no := rfl
@[simp] theorem x_cls1 (ts : List T) : isCls (.tup ts) "tuple" = some true := rfl
@[simp] theorem x_cls2 (z : Str) : isCls (.str z) "str" = some true := rfl
@[simp] theorem x_cls3 (n : Int) : isCls (.int n) "int" = some true := rfl
@[simp] theorem x_cls4 (n : Int) : isCls (.int n) "bool" = some false := rfl
@[simp] theorem x_cls5 (ts : List T) : isCls (.lst ts) "list" = some true := rfl
@[simp] theorem x_cls6 (ts : List T) : isCls (.lst ts) "tuple" = some false := rfl
@[simp] theorem x_cls7 (ts : List T) : isCls (.tup ts) "list" = some false := rfl
@[simp] theorem x_pOwn : pOwn i s = match s.env[i]? with | some (.own n) => .ok (.own n) s | _ => .no := rfl
@[simp] theorem x_pLoc : pLoc f s = (f s).bind fun t s1 => match t with | .loc n => .ok (.loc n) s1 | _ => .no := rfl
@[simp] theorem x_at1 (n : Nat) : s.at (.own n) = match s.lo[n]? with | some .dead => none | o => o := rfl
@[simp] theorem x_at2 (n : Nat) : s.at (.loc n) = s.st[n]? := rfl
@[simp] theorem x_put1 (o : O) (n : Nat) : s.put o (.own n) = { s with lo := s.lo.set n o } := rfl
@[simp] theorem x_put2 (o : O) (n : Nat) : s.put o (.loc n) = { s with st := s.st.set n o } := rfl
@[simp] theorem x_lstAt (p : Pl) : s.lstAt p = match s.at p with | some (.lst ts) => some ts | _ => none := rfl
@[simp] theorem x_dicAt (p : Pl) : s.dicAt p = match s.at p with | some (.dic ks vs) => some (ks, vs) | _ => none := rfl
@[simp] theorem x_fLenP : fLenP fp s = (fp s).bind fun p s1 => match s1.lstAt p with | some ts => .ok (.int ts.length) s1 | none => .no := rfl
@[simp] theorem x_fIxP : fIxP fp h s = (fp s).bind fun p s1 => (h s1).bind fun t s2 => match s2.lstAt p with | some ts => (match t with | .int i => ofO (ixAt ts i) s2 | _ => .no) | none => .no := rfl
@[simp] theorem x_fMut (op : List T → List T → Option (List T × T)) : fMut op fp fa s = (fp s).bind fun p s1 => match s1.lstAt p with | some _ => ((fa s1).bind fun xs s2 => match s2.lstAt p with | some ts => (match op ts xs with | some (ts', t) => .ok t (s2.put (.lst ts') p) | none => .no) | none => .no) | none => .no := rfl
@[simp] theorem x_muApp (x : T) : muApp ts [x] = if ts.length < 16777216 then some (ts ++ [x], .non) else none := rfl
@[simp] theorem x_qPl : qPl fp s = (fp s).bind fun p s1 => match s1.lstAt p with | some ts => .ok ts s1 | none => .no := rfl
@[simp] theorem x_fTupQ : fTupQ r s = (r s).bind fun ts s1 => .ok (.tup ts) s1 := rfl
@[simp] theorem x_oNo : oNo s = .ok none s := rfl
@[simp] theorem x_oOf : oOf f s = (f s).bind fun t s1 => match t with | .int i => .ok (some i) s1 | _ => .no := rfl
@[simp] theorem x_fTupRg : fTupRg f s = (f s).bind fun t s1 => match t with | .int j => (if -1000000 ≤ j ∧ j ≤ 1000000 then .ok (.tup (rngT 0 j.toNat)) s1 else .no) | _ => .no := by
  unfold fTupRg fTupQ aRg
  cases f s with
  | ok t s1 => cases t <;> first | rfl | (simp only [Rbind_ok]; split <;> rfl)
  | exc => rfl
  | no => rfl
@[simp] theorem x_aRg : aRg f s = (f s).bind fun t s1 => match t with | .int j => (if -1000000 ≤ j ∧ j ≤ 1000000 then .ok (rngT 0 j.toNat) s1 else .no) | _ => .no := rfl
@[simp] theorem x_fAll : fAll fa s = (fa s).bind fun ts s1 => match isBls ts with | some bs => .ok (.bl (bs.all id)) s1 | none => .no := rfl
@[simp] theorem x_fDGet : fDGet fp h s = (fp s).bind fun p s1 => (h s1).bind fun t s2 => match s2.dicAt p with | some d => (if keyOk d.1 t = true then ofO (dLook d.1 d.2 t) s2 else .no) | none => .no := rfl
@[simp] theorem x_fDIn (n : Bool) : fDIn n h fp s = (h s).bind fun t s1 => (fp s1).bind fun p s2 => match s2.dicAt p with | some d => (if keyOk d.1 t = true then .ok (n ^^ (dLook d.1 d.2 t).isSome) s2 else .no) | none => .no := rfl
@[simp] theorem x_sDPutZ : sDPutZ fp h f s = (f s).bind fun x s1 => (fp s1).bind fun p s2 => (h s2).bind fun t s3 => match s3.dicAt p with | some d => (if keyOk d.1 t = true ∧ d.2.length < 16777216 then .ok .nx (s3.put (.dic (dPutT d.1 d.2 t x).1 (dPutT d.1 d.2 t x).2) p) else .no) | none => .no := rfl
@[simp] theorem x_nDicT : nDicT f h s = (f s).bind fun k s1 => (h s1).bind fun v s2 => if isTupT k = true ∧ (nkey k).isSome = true then .ok (.new (.dic [k] [v])) s2 else .no := rfl
@[simp] theorem x_pNil : pNil s = .ok [] s := rfl
@[simp] theorem x_pCons (q : Eps) : pCons f h q s = (f s).bind fun k s1 => (h s1).bind fun v s2 => (q s2).bind fun ps s3 => .ok ((k, v) :: ps) s3 := rfl
@[simp] theorem x_nDicP (q : Eps) : nDicP q s = (q s).bind fun ps s1 => if keysOk (ps.map (·.1)) = true ∧ ps.length ≤ 15 then .ok (.new (.dic (ps.map (·.1)) (ps.map (·.2)))) s1 else .no := rfl
@[simp] theorem x_fLoc : fLoc fn s = (fn s).bind fun n s1 => match n with | .new o => .ok (.loc s1.st.length) { s1 with st := s1.st ++ [o] } | .val t => .ok t s1 := rfl
@[simp] theorem x_anNil : anNil s = .ok [] s := rfl
@[simp] theorem x_anCons (q : Ens) : anCons fn q s = (fn s).bind fun n s1 => (q s1).bind fun ns s2 => .ok (n :: ns) s2 := rfl
@[simp] theorem x_sPar (is : List Nat) (q : Ens) : sPar is q s = (q s).bind fun ns s1 => .ok .nx (s1.news is ns) := rfl
@[simp] theorem x_news (is : List Nat) (ns : List Nw) : s.news is ns = { (allocN s ns).1 with env := setF (allocN s ns).1.env is (allocN s ns).2 } := rfl
@[simp] theorem x_al0 : allocN s [] = (s, []) := rfl
@[simp] theorem x_al1 (ns : List Nw) : allocN s (.val t :: ns) = ((allocN s ns).1, .val t :: (allocN s ns).2) := rfl
@[simp] theorem x_al2 (o : O) (ns : List Nw) : allocN s (.new o :: ns) = ({ (allocN s ns).1 with lo := (allocN s ns).1.lo ++ [o] }, .own (allocN s ns).1.lo.length :: (allocN s ns).2) := rfl
@[simp] theorem x_setF1 {α : Type} (l : List α) (i : Nat) (is : List Nat) (x : α) (xs : List α) : setF l (i :: is) (x :: xs) = setF (l.set i x) is xs := rfl
@[simp] theorem x_setF0 {α : Type} (l : List α) (xs : List α) : setF l [] xs = l := by unfold setF; rfl
@[simp] theorem x_aSort : aSort fa s = (fa s).bind fun ts s1 => if srtOk ts = true then .ok (sortT ts) s1 else .no := rfl
@[simp] theorem x_aSortD : aSortD fp s = (fp s).bind fun p s1 => match s1.dicAt p with | some d => (if srtOk d.1 = true then .ok (sortT d.1) s1 else .no) | none => .no := rfl
@[simp] theorem x_iStrZ : iStrZ f s = (f s).bind fun t s1 => match t with | .str z => (if z.length ≤ 16777216 then .ok (chT z) s1 else .no) | _ => .no := rfl
@[simp] theorem x_iZipZ : iZipZ fa s = (fa s).bind fun ts s1 => match ts with | [.lst xs, .lst ys] => .ok (zipT xs ys) s1 | [.tup xs, .tup ys] => .ok (zipT xs ys) s1 | _ => .no := rfl
@[simp] theorem x_iZipSZ : iZipSZ fa s = (fa s).bind fun ts s1 => match ts with | [.tup xs, .tup ys] => (if xs.length = ys.length then .ok (zipT xs ys) s1 else .no) | _ => .no := rfl
@[simp] theorem x_iEnumL : iEnumL fa s = (fa s).bind fun ts s1 => match ts with | [.lst xs] => .ok (enumT 0 xs) s1 | _ => .no := rfl
@[simp] theorem x_fSlA (lo hi : Eo) : fSlA f lo hi s = (f s).bind fun t s1 => (lo s1).bind fun l s2 => (hi s2).bind fun u s3 => match t with | .tup ts => .ok (.tup (cutT ts l u)) s3 | .lst ts => .ok (.lst (cutT ts l u)) s3 | _ => .no := rfl
@[simp] theorem x_sFor (p : Pat) : sFor fa p sf s = (fa s).bind fun ts s1 => loopF p sf ts s1 := rfl
@[simp] theorem x_opI (g : Int → Int → T) (a b : Int) : opI g (.int a) (.int b) = some (g a b) := rfl
@[simp] theorem x_addI (a b : Int) : opAdd (.int a) (.int b) = some (.int (a + b)) := rfl
@[simp] theorem x_ixT (n : Int) : opIx (.tup ts) (.int n) = ixAt ts n := rfl
@[simp] theorem x_ixL (n : Int) : opIx (.lst ts) (.int n) = ixAt ts n := rfl
@[simp] theorem x_lenT : clLen [.tup ts] = some (.int ts.length) := rfl
@[simp] theorem x_lenL : clLen [.lst ts] = some (.int ts.length) := rfl
@[simp] theorem x_ix0 {α : Type} (x : α) (xs : List α) : ixAt (x :: xs) 0 = some x := rfl
@[simp] theorem x_ix1 {α : Type} (x y : α) (xs : List α) : ixAt (x :: y :: xs) 1 = some y := rfl
@[simp] theorem x_ix2 {α : Type} (x y z : α) (xs : List α) : ixAt (x :: y :: z :: xs) 2 = some z := rfl
@[simp] theorem x_ix3 {α : Type} (x y z u : α) (xs : List α) : ixAt (x :: y :: z :: u :: xs) 3 = some u := rfl
@[simp] theorem x_neg (n : Int) : opNeg (.int n) = some (.int (-n)) := rfl
@[simp] theorem x_clTupL : clTup [.lst ts] = some (.tup ts) := rfl
@[simp] theorem x_clTupT : clTup [.tup ts] = some (.tup ts) := rfl
@[simp] theorem x_clLstT : clLst [.tup ts] = some ts := rfl
@[simp] theorem x_clLstL : clLst [.lst ts] = some ts := rfl
end
theorem x_ixN {α : Type} {xs : List α} {n : Nat} {x : α} (h : xs[n]? = some x) : ixAt xs (n : Int) = some x := by
  unfold ixAt
  rw [if_pos (by omega)]
  simpa using h
theorem callF_pure {np nn : Nat} {f : Sv} {ts : List T} {t : T} (hl : ts.length = np) (h : ∀ st, ∃ env lo, f (st0 nn ts st) = .ok (.ret (.val t)) ⟨env, lo, st⟩) (s : S) : callF (mkF np nn f) ts s = .ok (.val t) s := by
  obtain ⟨env, lo, e⟩ := h s.st
  exact callF_gv (st' := s.st) (gv_ret (s := ⟨env, lo, s.st⟩) hl e)
theorem callF_pure0 {np nn : Nat} {f : Sv} {ts : List T} (hl : ts.length = np) (h : ∀ st, ∃ env lo, f (st0 nn ts st) = .ok .nx ⟨env, lo, st⟩) (s : S) : callF (mkF np nn f) ts s = .ok (.val .non) s := by
  obtain ⟨env, lo, e⟩ := h s.st
  exact callF_gv (st' := s.st) (gv_nx (s := ⟨env, lo, s.st⟩) hl e)
mutual
def T.cl : T → Bool
  | .non => true
  | .int _ => true
  | .str _ => true
  | .tup ts => cls ts
  | .lst ts => cls ts
  | _ => false
def cls : List T → Bool
  | [] => true
  | t :: ts => t.cl && cls ts
end
mutual
theorem cl_ok : ∀ {t : T}, t.cl = true → (toD t).plain = true ∧ t.pure = true
  | .non, _ => ⟨rfl, rfl⟩
  | .int _, _ => ⟨rfl, rfl⟩
  | .str _, _ => ⟨rfl, rfl⟩
  | .tup ts, h => by
    have := cls_ok (ts := ts) (by simpa [T.cl] using h)
    exact ⟨by rw [toD, PyData.plain]; exact this.1, by rw [T.pure]; exact this.2⟩
  | .lst ts, h => by
    have := cls_ok (ts := ts) (by simpa [T.cl] using h)
    exact ⟨by rw [toD, PyData.plain]; exact this.1, by rw [T.pure]; exact this.2⟩
  | .bl _, h => by simp [T.cl] at h
  | .dct _ _, h => by simp [T.cl] at h
  | .dcn _ _, h => by simp [T.cl] at h
  | .loc _, h => by simp [T.cl] at h
theorem cls_ok : ∀ {ts : List T}, cls ts = true → PyData.plainAll (toDs ts) = true ∧ pures ts = true
  | [], _ => ⟨rfl, rfl⟩
  | t :: ts, h => by
    rw [cls, Bool.and_eq_true] at h
    have a := cl_ok h.1
    have b := cls_ok h.2
    exact ⟨by rw [toDs, PyData.plainAll, a.1, b.1]; rfl, by rw [pures, a.2, b.2]; rfl⟩
end
mutual
theorem eqv_cl : ∀ {x y : T}, x.cl = true → y.cl = true → (PyData.eqv (toD x) (toD y) = true ↔ x = y)
  | .non, y, _, hy => by cases y <;> simp_all [T.cl, toD, PyData.eqv]
  | .int a, y, _, hy => by cases y <;> simp_all [T.cl, toD, PyData.eqv]
  | .str a, y, _, hy => by cases y <;> simp_all [T.cl, toD, PyData.eqv]
  | .tup ts, y, hx, hy => by
    cases y with
    | tup us =>
      have := eqvAll_cl (ts := ts) (us := us) (by simpa [T.cl] using hx) (by simpa [T.cl] using hy)
      simp only [toD, PyData.eqv, T.tup.injEq]
      exact this
    | _ => simp_all [T.cl, toD, PyData.eqv]
  | .lst ts, y, hx, hy => by
    cases y with
    | lst us =>
      have := eqvAll_cl (ts := ts) (us := us) (by simpa [T.cl] using hx) (by simpa [T.cl] using hy)
      simp only [toD, PyData.eqv, T.lst.injEq]
      exact this
    | _ => simp_all [T.cl, toD, PyData.eqv]
  | .bl _, _, h, _ => by simp [T.cl] at h
  | .dct _ _, _, h, _ => by simp [T.cl] at h
  | .dcn _ _, _, h, _ => by simp [T.cl] at h
  | .loc _, _, h, _ => by simp [T.cl] at h
theorem eqvAll_cl : ∀ {ts us : List T}, cls ts = true → cls us = true → (PyData.eqvAll (toDs ts) (toDs us) = true ↔ ts = us)
  | [], [], _, _ => by simp [toDs, PyData.eqvAll]
  | [], _ :: _, _, _ => by simp [toDs, PyData.eqvAll]
  | _ :: _, [], _, _ => by simp [toDs, PyData.eqvAll]
  | t :: ts, u :: us, h1, h2 => by
    rw [cls, Bool.and_eq_true] at h1 h2
    have a := eqv_cl h1.1 h2.1
    have b := eqvAll_cl h1.2 h2.2
    simp only [toDs, PyData.eqvAll, Bool.and_eq_true, a, b, List.cons.injEq]
end
/-- Python's == of such -/
def eqb (x y : T) : Bool := PyData.eqv (toD x) (toD y)
theorem eqb_iff {x y : T} (hx : x.cl = true) (hy : y.cl = true) : eqb x y = true ↔ x = y := eqv_cl hx hy
theorem eqb_refl {x : T} (hx : x.cl = true) : eqb x x = true := (eqb_iff hx hx).mpr rfl
theorem eqb_ne {x y : T} (hx : x.cl = true) (hy : y.cl = true) (h : x ≠ y) : eqb x y = false := by
  cases e : eqb x y with
  | false => rfl
  | true => exact absurd ((eqb_iff hx hy).mp e) h
def T.dep (t : T) : Nat := (toD t).depth
theorem cmpOk_cl {x y : T} (hx : x.cl = true) (hy : y.cl = true) (hd : x.dep ≤ 100 ∨ y.dep ≤ 100) : cmpOk x y = true := by
  unfold cmpOk okT dMin
  rw [(cl_ok hx).1, (cl_ok hy).1]
  simp only [Bool.and_true, Bool.true_and, decide_eq_true_eq]
  unfold T.dep at hd
  omega
theorem opEq_cl {x y : T} (hx : x.cl = true) (hy : y.cl = true) (hd : x.dep ≤ 100 ∨ y.dep ≤ 100) : opEq x y = some (.bl (eqb x y)) := by
  unfold opEq
  rw [if_pos (cmpOk_cl hx hy hd)]; rfl
theorem opNe_cl {x y : T} (hx : x.cl = true) (hy : y.cl = true) (hd : x.dep ≤ 100 ∨ y.dep ≤ 100) : opNe x y = some (.bl (!eqb x y)) := by
  unfold opNe
  rw [if_pos (cmpOk_cl hx hy hd)]; rfl
@[simp] theorem opEq_int (a b : Int) : opEq (.int a) (.int b) = some (.bl (decide (a = b))) := by
  rw [opEq_cl rfl rfl (.inl (Nat.zero_le _))]
  simp [eqb, toD, PyData.eqv]
  rfl
@[simp] theorem opNe_int (a b : Int) : opNe (.int a) (.int b) = some (.bl (!decide (a = b))) := by
  rw [opNe_cl rfl rfl (.inl (Nat.zero_le _))]
  simp [eqb, toD, PyData.eqv]
  rfl
@[simp] theorem opEq_str (a b : Str) : opEq (.str a) (.str b) = some (.bl (decide (a = b))) := by
  rw [opEq_cl rfl rfl (.inl (Nat.zero_le _))]
  simp [eqb, toD, PyData.eqv]
  rfl
@[simp] theorem opNe_str (a b : Str) : opNe (.str a) (.str b) = some (.bl (!decide (a = b))) := by
  rw [opNe_cl rfl rfl (.inl (Nat.zero_le _))]
  simp [eqb, toD, PyData.eqv]
  rfl
end L2.Z
set_option Elab.async false
set_option linter.all false
set_option maxRecDepth 100000
set_option maxHeartbeats 3200000
namespace L2.Z
open PySem PySem.Spec PyProof.Rows
theorem isBls_map {α : Type} (g : α → Bool) : ∀ l : List α, isBls (l.map fun a => T.bl (g a)) = some (l.map g)
  | [] => rfl
  | a :: l => by
    show (isBls (l.map fun a => T.bl (g a))).map (g a :: ·) = _
    rw [isBls_map g l]; rfl
theorem all_true {α : Type} : ∀ l : List α, (l.map fun _ => true).all id = true
  | [] => rfl
  | _ :: l => by rw [List.map_cons, List.all_cons, all_true l]; rfl
theorem fAll_bls {it : Ea} {p : Pat} {f : Ev} {vs : List Nat} {s s1 : S} {ts : List T} (g : T → Bool) (hi : it s = .ok ts s1) (h : ∀ t ∈ ts, ∃ s2, p t ⟨wipeE s1.env vs, s1.lo, s1.st⟩ = .ok () s2 ∧ f s2 = .ok (.bl (g t)) s2 ∧ wipeE s2.env vs = wipeE s1.env vs ∧ s2.lo = s1.lo ∧ s2.st = s1.st) :
    fAll (aLc it p tTrue f vs) s = .ok (.bl ((ts.map g).all id)) s1 := by
  rw [x_fAll, aLc_map (fun t => T.bl (g t)) hi fun t m => (by
    obtain ⟨s2, h1, h2, h3⟩ := h t m
    exact ⟨s2, s2, h1, h2, h3⟩), Rbind_ok]
  rw [isBls_map]
theorem fAll_true {it : Ea} {p : Pat} {f : Ev} {vs : List Nat} {s s1 : S} {ts : List T} (hi : it s = .ok ts s1) (h : ∀ t ∈ ts, ∃ s2, p t ⟨wipeE s1.env vs, s1.lo, s1.st⟩ = .ok () s2 ∧ f s2 = .ok (.bl true) s2 ∧ wipeE s2.env vs = wipeE s1.env vs ∧ s2.lo = s1.lo ∧ s2.st = s1.st) :
    fAll (aLc it p tTrue f vs) s = .ok (.bl true) s1 := by
  rw [fAll_bls (fun _ => true) hi h, all_true]
/-- .. of things that stand for data -/
theorem aLc_mapD {α : Type} {it : Ea} {p : Pat} {f : Ev} {vs : List Nat} {s s1 : S} {l : List α} {en : α → T} (e : α → T) (hi : it s = .ok (l.map en) s1) (h : ∀ a ∈ l, ∃ s2, p (en a) ⟨wipeE s1.env vs, s1.lo, s1.st⟩ = .ok () s2 ∧ f s2 = .ok (e a) s2 ∧ wipeE s2.env vs = wipeE s1.env vs ∧ s2.lo = s1.lo ∧ s2.st = s1.st) :
    aLc it p tTrue f vs s = .ok (l.map e) s1 := by
  have : ∀ l : List α, (∀ a ∈ l, ∃ s2, p (en a) ⟨wipeE s1.env vs, s1.lo, s1.st⟩ = .ok () s2 ∧ f s2 = .ok (e a) s2 ∧ wipeE s2.env vs = wipeE s1.env vs ∧ s2.lo = s1.lo ∧ s2.st = s1.st) → Turns p tTrue f vs (wipeE s1.env vs) s1.lo (l.map en) (l.map e) s1.st s1.st := by
    intro l
    induction l with
    | nil => exact fun _ => .nil
    | cons a l ih =>
      intro h
      obtain ⟨s2, h1, h2, h3⟩ := h a (List.mem_cons_self ..)
      exact .cons ⟨s2, true, s2, h1, rfl, rfl, s2, h2, h3⟩ (ih fun b m => h b (List.mem_cons_of_mem _ m))
  exact aLc_turns hi (this l h)
/-- .. some of them -/
theorem aLc_filterD {α : Type} {it : Ea} {p : Pat} {c : Et} {f : Ev} {vs : List Nat} {s s1 : S} {l : List α} {en : α → T} (g : α → Bool) (e : α → T) (hi : it s = .ok (l.map en) s1)
    (h : ∀ a ∈ l, ∃ s2, p (en a) ⟨wipeE s1.env vs, s1.lo, s1.st⟩ = .ok () s2 ∧ c s2 = .ok (g a) s2 ∧ (g a = true → f s2 = .ok (e a) s2) ∧ wipeE s2.env vs = wipeE s1.env vs ∧ s2.lo = s1.lo ∧ s2.st = s1.st) :
    aLc it p c f vs s = .ok ((l.filter g).map e) s1 := by
  have : ∀ l : List α, (∀ a ∈ l, ∃ s2, p (en a) ⟨wipeE s1.env vs, s1.lo, s1.st⟩ = .ok () s2 ∧ c s2 = .ok (g a) s2 ∧ (g a = true → f s2 = .ok (e a) s2) ∧ wipeE s2.env vs = wipeE s1.env vs ∧ s2.lo = s1.lo ∧ s2.st = s1.st) → Turns p c f vs (wipeE s1.env vs) s1.lo (l.map en) ((l.filter g).map e) s1.st s1.st := by
    intro l
    induction l with
    | nil => exact fun _ => .nil
    | cons a l ih =>
      intro h
      obtain ⟨s2, h1, h2, h3, h4⟩ := h a (List.mem_cons_self ..)
      have ih := ih fun b m => h b (List.mem_cons_of_mem _ m)
      cases q : g a with
      | true =>
        rw [List.filter_cons_of_pos q]
        exact .cons ⟨s2, true, s2, h1, by rw [h2, q], rfl, s2, h3 q, h4⟩ ih
      | false =>
        rw [List.filter_cons_of_neg (by rw [q]; simp)]
        exact .skip ⟨s2, false, s2, h1, by rw [h2, q], rfl, h4⟩ ih
  exact aLc_turns hi (this l h)
section
variable {α : Type} {it : Ea} {p : Pat} {c : Et} {f : Ev} {vs : List Nat} {s : S} {l : List α} {en : α → T}
theorem mapS (e : α → T) (hi : it s = .ok (l.map en) s) (h : ∀ a ∈ l, ∃ s2, p (en a) ⟨wipeE s.env vs, s.lo, s.st⟩ = .ok () s2 ∧ f s2 = .ok (e a) s2 ∧ wipeE s2.env vs = wipeE s.env vs ∧ s2.lo = s.lo ∧ s2.st = s.st) : aLc it p tTrue f vs s = .ok (l.map e) s := aLc_mapD e hi h
theorem filS (g : α → Bool) (e : α → T) (hi : it s = .ok (l.map en) s) (h : ∀ a ∈ l, ∃ s2, p (en a) ⟨wipeE s.env vs, s.lo, s.st⟩ = .ok () s2 ∧ c s2 = .ok (g a) s2 ∧ (g a = true → f s2 = .ok (e a) s2) ∧ wipeE s2.env vs = wipeE s.env vs ∧ s2.lo = s.lo ∧ s2.st = s.st) : aLc it p c f vs s = .ok ((l.filter g).map e) s := aLc_filterD g e hi h
end
structure Bx where
  name : Str
  slots : List (Str × Str)
  moves : List (List Nat × Int)
structure Gr where
  spaces : List Str
  boxes : List Bx
abbrev Fac := Str × List Str
abbrev Tm := List Fac
def eSl (p : Str × Str) : T := .tup [.str p.1, .str p.2]
def eOrd (o : List Nat) : T := .tup (o.map fun (k : Nat) => .int (k : Int))
def eMv (m : List Nat × Int) : T := .tup [eOrd m.1, .int m.2]
def eBx (b : Bx) : T := .tup [.str b.name, .tup (b.slots.map eSl), .tup (b.moves.map eMv)]
def eGr (g : Gr) : T := .tup [.tup (g.spaces.map .str), .tup (g.boxes.map eBx)]
def lowC (c : Nat) : Bool := decide (97 ≤ c) && decide (c ≤ 122)
structure NameOk (z : Str) : Prop where
  lo : 1 ≤ z.length
  hi : z.length ≤ 8
  cs : ∀ c ∈ z.cps.toList, lowC c = true
def strLt (a b : Str) : Prop := a.cps.toList < b.cps.toList
/-- each name before the next -/
def Rise : List Str → Prop
  | [] => True
  | [_] => True
  | a :: b :: r => strLt a b ∧ Rise (b :: r)
def upS : Str := "up"
def dnS : Str := "down"
structure SlOk (sp : List Str) (s : Str × Str) : Prop where
  sp : s.1 ∈ sp
  side : s.2 = upS ∨ s.2 = dnS
structure OrdOk (held : List (Str × Str)) (o : List Nat) : Prop where
  len : o.length = held.length
  lt : ∀ k ∈ o, k < held.length
  nd : o.Nodup
  at_ : ∀ (i k : Nat), o[i]? = some k → held[k]? = held[i]?
def SgOk (n : Int) : Prop := n = 1 ∨ n = -1
structure BxOk (sp : List Str) (b : Bx) : Prop where
  name : NameOk b.name
  few : b.slots.length ≤ 4
  slots : ∀ s ∈ b.slots, SlOk sp s
  moves : b.moves.length ≤ 3
  mv : ∀ m ∈ b.moves, OrdOk b.slots m.1 ∧ SgOk m.2
structure GrOk (g : Gr) : Prop where
  one : 1 ≤ g.spaces.length
  few : g.spaces.length ≤ 3
  sp : ∀ z ∈ g.spaces, NameOk z
  rs : Rise g.spaces
  bx : g.boxes.length ≤ 8
  ok : ∀ b ∈ g.boxes, BxOk g.spaces b
  rb : Rise (g.boxes.map (·.name))
theorem cls_map {α : Type} {f : α → T} : ∀ {l : List α}, (∀ a ∈ l, (f a).cl = true) → cls (l.map f) = true
  | [], _ => rfl
  | a :: l, h => by rw [List.map_cons, cls, h a (List.mem_cons_self ..), cls_map fun b m => h b (List.mem_cons_of_mem _ m)]; rfl
@[simp] theorem cl_str (z : Str) : (T.str z).cl = true := rfl
@[simp] theorem cl_int (n : Int) : (T.int n).cl = true := rfl
@[simp] theorem cl_tup (ts : List T) : (T.tup ts).cl = cls ts := by rw [T.cl]
@[simp] theorem cl_lst (ts : List T) : (T.lst ts).cl = cls ts := by rw [T.cl]
@[simp] theorem cls_nil : cls [] = true := rfl
@[simp] theorem cls_cons (t : T) (ts : List T) : cls (t :: ts) = (t.cl && cls ts) := by rw [cls]
@[simp] theorem cls_strs (l : List Str) : cls (l.map T.str) = true := cls_map fun _ _ => rfl
@[simp] theorem cl_eSl (p : Str × Str) : (eSl p).cl = true := by simp [eSl]
@[simp] theorem cl_eOrd (o : List Nat) : (eOrd o).cl = true := by
  rw [eOrd, cl_tup]; exact cls_map fun _ _ => rfl
@[simp] theorem cl_eMv (m : List Nat × Int) : (eMv m).cl = true := by simp [eMv]
@[simp] theorem cl_eBx (b : Bx) : (eBx b).cl = true := by
  simp [eBx, cls_map (f := eSl) (l := b.slots) fun _ _ => cl_eSl _, cls_map (f := eMv) (l := b.moves) fun _ _ => cl_eMv _]
@[simp] theorem cl_eGr (g : Gr) : (eGr g).cl = true := by simp [eGr, cls_map (f := eBx) (l := g.boxes) fun _ _ => cl_eBx _]
theorem depAll_le {n : Nat} : ∀ {ts : List T}, (∀ t ∈ ts, t.dep ≤ n) → PyData.depthAll (toDs ts) ≤ n
  | [], _ => Nat.zero_le _
  | t :: ts, h => by
    rw [toDs, PyData.depthAll]
    have a := h t (List.mem_cons_self ..)
    have b := depAll_le fun u m => h u (List.mem_cons_of_mem _ m)
    unfold T.dep at a
    omega
theorem dep_tup {n : Nat} {ts : List T} (h : ∀ t ∈ ts, t.dep ≤ n) : (T.tup ts).dep ≤ n + 1 := by
  unfold T.dep
  rw [toD, PyData.depth]
  exact Nat.succ_le_succ (depAll_le h)
theorem dep_lst {n : Nat} {ts : List T} (h : ∀ t ∈ ts, t.dep ≤ n) : (T.lst ts).dep ≤ n + 1 := by
  unfold T.dep
  rw [toD, PyData.depth]
  exact Nat.succ_le_succ (depAll_le h)
theorem dep_map {α : Type} {f : α → T} {n : Nat} {l : List α} (h : ∀ a ∈ l, (f a).dep ≤ n) : ∀ t ∈ l.map f, t.dep ≤ n := fun t m => by
  obtain ⟨a, ha, rfl⟩ := List.mem_map.mp m
  exact h a ha
theorem dep_mono {t : T} {n m : Nat} (h : t.dep ≤ n) (l : n ≤ m) : t.dep ≤ m := Nat.le_trans h l
theorem dep_eSl (p : Str × Str) : (eSl p).dep ≤ 1 := dep_tup fun t m => by
  simp only [List.mem_cons, List.not_mem_nil, or_false] at m
  rcases m with rfl | rfl <;> exact Nat.zero_le _
theorem dep_eOrd (o : List Nat) : (eOrd o).dep ≤ 1 := dep_tup (dep_map fun _ _ => Nat.zero_le _)
theorem dep_eMv (m : List Nat × Int) : (eMv m).dep ≤ 2 := dep_tup fun t h => by
  simp only [List.mem_cons, List.not_mem_nil, or_false] at h
  rcases h with rfl | rfl
  · exact dep_eOrd _
  · exact Nat.zero_le _
theorem dep_eBx (b : Bx) : (eBx b).dep ≤ 4 := dep_tup fun t h => by
  simp only [List.mem_cons, List.not_mem_nil, or_false] at h
  rcases h with rfl | rfl | rfl
  · exact Nat.zero_le _
  · exact dep_tup (dep_map fun a _ => dep_mono (dep_eSl a) (by omega))
  · exact dep_tup (dep_map fun a _ => dep_eMv a)
theorem dep_eGr (g : Gr) : (eGr g).dep ≤ 6 := dep_tup fun t h => by
  simp only [List.mem_cons, List.not_mem_nil, or_false] at h
  rcases h with rfl | rfl
  · exact dep_tup (dep_map fun a _ => Nat.zero_le _)
  · exact dep_tup (dep_map fun a _ => dep_eBx a)
theorem eOrd_inj {a b : List Nat} : eOrd a = eOrd b ↔ a = b := by
  constructor
  · intro h
    simp only [eOrd, T.tup.injEq] at h
    exact (List.map_inj_right (fun x y e => by injection e with e; omega)).mp h
  · rintro rfl; rfl
theorem eMv_inj {a b : List Nat × Int} : eMv a = eMv b ↔ a = b := by
  cases a; cases b; simp [eMv, eOrd_inj]
theorem opIn_tup {x : T} {ts : List T} (hx : x.cl = true) (hy : cls ts = true) (hd : x.dep ≤ 100) : opIn x (.tup ts) = some (.bl (ts.any fun y => eqb y x)) := by
  show (if cmpOk x (.tup ts) = true then some (T.bl (inL x ts)) else none) = _
  rw [if_pos (cmpOk_cl hx (by simpa using hy) (.inl hd))]; rfl
theorem opIn_lst {x : T} {ts : List T} (hx : x.cl = true) (hy : cls ts = true) (hd : x.dep ≤ 100) : opIn x (.lst ts) = some (.bl (ts.any fun y => eqb y x)) := by
  show (if cmpOk x (.lst ts) = true then some (T.bl (inL x ts)) else none) = _
  rw [if_pos (cmpOk_cl hx (by simpa using hy) (.inl hd))]; rfl
theorem mem_cls {t : T} : ∀ {ts : List T}, cls ts = true → t ∈ ts → t.cl = true
  | u :: ts, h, m => by
    rw [cls_cons, Bool.and_eq_true] at h
    rcases List.mem_cons.mp m with rfl | m
    · exact h.1
    · exact mem_cls h.2 m
theorem any_eqb {x : T} {ts : List T} (hx : x.cl = true) (hy : cls ts = true) : (ts.any fun y => eqb y x) = true ↔ x ∈ ts := by
  rw [List.any_eq_true]
  constructor
  · rintro ⟨y, m, e⟩
    exact (eqb_iff (mem_cls hy m) hx).mp e ▸ m
  · intro m
    exact ⟨x, m, eqb_refl hx⟩
theorem inT_yes {x : T} {ts : List T} (hx : x.cl = true) (hy : cls ts = true) (hd : x.dep ≤ 100) (m : x ∈ ts) : opIn x (.tup ts) = some (.bl true) := by
  rw [opIn_tup hx hy hd, (any_eqb hx hy).mpr m]
theorem inL_yes {x : T} {ts : List T} (hx : x.cl = true) (hy : cls ts = true) (hd : x.dep ≤ 100) (m : x ∈ ts) : opIn x (.lst ts) = some (.bl true) := by
  rw [opIn_lst hx hy hd, (any_eqb hx hy).mpr m]
theorem inL_no {x : T} {ts : List T} (hx : x.cl = true) (hy : cls ts = true) (hd : x.dep ≤ 100) (m : x ∉ ts) : opIn x (.lst ts) = some (.bl false) := by
  rw [opIn_lst hx hy hd]
  congr 2
  cases e : ts.any fun y => eqb y x with
  | false => rfl
  | true => exact absurd ((any_eqb hx hy).mp e) m
/-- a small letter is one of the letters -/
theorem in_letters {c : Nat} (h : lowC c = true) : opIn (.str ⟨#[c]⟩) (.str ("abcdefghijklmnopqrstuvwxyz" : Str)) = some (.bl true) := by
  simp only [lowC, Bool.and_eq_true, decide_eq_true_eq] at h
  obtain ⟨k, rfl⟩ : ∃ k, c = 97 + k := ⟨c - 97, by omega⟩
  have hk : k < 26 := by omega
  have all : ∀ k : Fin 26, opIn (.str ⟨#[97 + k.val]⟩) (.str ("abcdefghijklmnopqrstuvwxyz" : Str)) = some (.bl true) := by
    intro k
    have : ((Builtin.Str.occurrences ("abcdefghijklmnopqrstuvwxyz" : Str) ⟨#[97 + k.val]⟩ 0 ("abcdefghijklmnopqrstuvwxyz" : Str).length 1).isEmpty) = false := by
      revert k; decide +kernel
    show some (T.bl (!_)) = _
    rw [this]; rfl
  exact all ⟨k, hk⟩
end L2.Z
set_option Elab.async false
set_option linter.all false
set_option maxRecDepth 100000
set_option maxHeartbeats 3200000
namespace L2.Z
open PySem PySem.Spec PyProof.Rows
theorem loopF_fold {α β : Type} {p : Pat} {f : Sv} {en : β → T} (R : α → S → Prop) (step : α → β → α) : ∀ (l : List β), (∀ x ∈ l, ∀ a s, R a s → ∃ s1 s2, p (en x) s = .ok () s1 ∧ f s1 = .ok .nx s2 ∧ R (step a x) s2) → ∀ a s, R a s → ∃ s', loopF p f (l.map en) s = .ok .nx s' ∧ R (l.foldl step a) s'
  | [], _, a, s, r => ⟨s, rfl, r⟩
  | x :: l, h, a, s, r => by
    obtain ⟨s1, s2, e1, e2, r2⟩ := h x (List.mem_cons_self ..) a s r
    obtain ⟨s', e, z⟩ := loopF_fold R step l (fun y m => h y (List.mem_cons_of_mem _ m)) _ s2 r2
    refine ⟨s', ?_, z⟩
    rw [List.map_cons]
    unfold loopF
    rw [e1, Rbind_ok, e2, Rbind_ok]
    exact e
mutual
theorem nk0_inj : ∀ {x y : T} {k : NestedKey}, nk0 x = some k → nk0 y = some k → x = y
  | .int a, y, k, h1, h2 => by
    rw [nk0] at h1; cases h1
    cases y with
    | int b => rw [nk0] at h2; simpa using h2.symm
    | str b => rw [nk0] at h2; cases h2
    | tup us => rw [nk0] at h2; cases q : nks us <;> rw [q] at h2 <;> cases h2
    | _ => simp [nk0] at h2
  | .str a, y, k, h1, h2 => by
    rw [nk0] at h1; cases h1
    cases y with
    | int b => rw [nk0] at h2; cases h2
    | str b => rw [nk0] at h2; simpa using h2.symm
    | tup us => rw [nk0] at h2; cases q : nks us <;> rw [q] at h2 <;> cases h2
    | _ => simp [nk0] at h2
  | .tup ts, y, k, h1, h2 => by
    rw [nk0] at h1
    cases q : nks ts with
    | none => rw [q] at h1; cases h1
    | some l =>
      rw [q] at h1; cases h1
      cases y with
      | int b => rw [nk0] at h2; cases h2
      | str b => rw [nk0] at h2; cases h2
      | tup us =>
        rw [nk0] at h2
        cases q2 : nks us with
        | none => rw [q2] at h2; cases h2
        | some l2 =>
          rw [q2] at h2
          simp only [Option.map_some, Option.some.injEq, NestedKey.tup.injEq] at h2
          subst h2
          rw [nks_inj q q2]
      | _ => simp [nk0] at h2
  | .non, _, _, h1, _ => by simp [nk0] at h1
  | .bl _, _, _, h1, _ => by simp [nk0] at h1
  | .lst _, _, _, h1, _ => by simp [nk0] at h1
  | .dct _ _, _, _, h1, _ => by simp [nk0] at h1
  | .dcn _ _, _, _, h1, _ => by simp [nk0] at h1
  | .loc _, _, _, h1, _ => by simp [nk0] at h1
theorem nks_inj : ∀ {ts us : List T} {l : List NestedKey}, nks ts = some l → nks us = some l → ts = us
  | [], us, l, h1, h2 => by
    rw [nks] at h1; cases h1
    cases us with
    | nil => rfl
    | cons u us =>
      rw [nks] at h2
      cases q : nk0 u with
      | none => rw [q] at h2; cases h2
      | some k => rw [q] at h2; cases q2 : nks us <;> rw [q2] at h2 <;> cases h2
  | t :: ts, us, l, h1, h2 => by
    rw [nks] at h1
    cases q : nk0 t with
    | none => rw [q] at h1; cases h1
    | some k =>
      rw [q] at h1
      cases q2 : nks ts with
      | none => rw [q2] at h1; cases h1
      | some r =>
        rw [q2] at h1; cases h1
        cases us with
        | nil => rw [nks] at h2; cases h2
        | cons u us =>
          rw [nks] at h2
          cases z : nk0 u with
          | none => rw [z] at h2; cases h2
          | some k' =>
            rw [z] at h2
            cases z2 : nks us with
            | none => rw [z2] at h2; cases h2
            | some r' =>
              rw [z2] at h2
              simp only [Option.map_some, Option.bind_some, Option.some.injEq, List.cons.injEq] at h2
              obtain ⟨rfl, rfl⟩ := h2
              rw [nk0_inj q z, nks_inj q2 z2]
end
theorem nk0_eq {x y : T} (h : (nk0 x).isSome = true) : nk0 x = nk0 y ↔ x = y := by
  constructor
  · intro e
    obtain ⟨k, hk⟩ := Option.isSome_iff_exists.mp h
    exact nk0_inj hk (by rw [← e]; exact hk)
  · rintro rfl; rfl
theorem dLook_none : ∀ {ks vs : List T} {t : T}, (∀ k ∈ ks, (nk0 k).isSome = true) → t ∉ ks → dLook ks vs t = none
  | [], _, _, _, _ => by simp [dLook]
  | _ :: _, [], _, _, _ => by simp [dLook]
  | k :: ks, v :: vs, t, h, m => by
    unfold dLook
    rw [if_neg (fun e => m (((nk0_eq (h k (List.mem_cons_self ..))).mp e) ▸ List.mem_cons_self ..))]
    exact dLook_none (fun x q => h x (List.mem_cons_of_mem _ q)) fun q => m (List.mem_cons_of_mem _ q)
theorem dPutT_new {ks vs : List T} {t x : T} (h : ∀ k ∈ ks, (nk0 k).isSome = true) (m : t ∉ ks) : dPutT ks vs t x = (ks ++ [t], vs ++ [x]) := by
  unfold dPutT
  rw [dLook_none h m]
  rfl
theorem nks_ints : ∀ o : List Nat, nks (o.map fun (k : Nat) => T.int (k : Int)) = some (o.map fun (k : Nat) => NestedKey.num (k : Int))
  | [] => rfl
  | k :: o => by rw [List.map_cons, nks, nk0, nks_ints o]; rfl
theorem nk0_eMv (m : List Nat × Int) : nk0 (eMv m) = some (.tup [.tup (m.1.map fun (k : Nat) => NestedKey.num (k : Int)), .num m.2]) := by
  simp only [eMv, eOrd]
  rw [nk0, nks, nk0, nks_ints, nks, nk0, nks]
  rfl
theorem key_eMv (m : List Nat × Int) : isKeyT (eMv m) = true := by
  show (isTupT (eMv m) && (nkey (eMv m)).isSome) = true
  unfold nkey
  rw [nk0_eMv]
  have d : ∀ o : List Nat, NestedKey.depthAll (o.map fun (k : Nat) => NestedKey.num (k : Int)) ≤ 1 := fun o => by
    induction o with
    | nil => decide
    | cons k o ih => rw [List.map_cons, NestedKey.depthAll, NestedKey.depth]; omega
  have : (NestedKey.tup [.tup (m.1.map fun (k : Nat) => NestedKey.num (k : Int)), .num m.2]).depth ≤ 8 := by
    rw [NestedKey.depth, NestedKey.depthAll, NestedKey.depth, NestedKey.depthAll, NestedKey.depthAll, NestedKey.depth]
    have := d m.1
    omega
  rw [Option.bind_some, if_pos this]
  rfl
end L2.Z
set_option Elab.async false
set_option linter.all false
set_option maxRecDepth 100000
set_option maxHeartbeats 3200000
namespace L2.Z
open PySem PySem.Spec PyProof.Rows
abbrev El := List Nat × Int
def mvd {α : Type} (d : α) (row : List α) (o : List Nat) : List α := o.map fun k => row.getD k d
def reach (c m : El) : El := (mvd 0 c.1 m.1, c.2 * m.2)
def gstep (c : El) (a : List El × List El) (m : El) : List El × List El := if reach c m ∈ a.1 then a else (a.1 ++ [reach c m], a.2 ++ [reach c m])
def gfold (moves : List El) (c : El) (a : List El × List El) : List El × List El := moves.foldl (gstep c) a
def gloop (moves : List El) : Nat → List El × List El → List El
  | 0, a => a.1
  | n + 1, a => match a.2.getLast? with
    | none => a.1
    | some c => gloop moves n (gfold moves c (a.1, a.2.dropLast))
def stillO (n : Nat) : El := (List.range n, 1)
def grp (b : Bx) : List El := gloop b.moves 1000000 ([stillO b.slots.length], [stillO b.slots.length])
/-- the loop's two lists, so far: p of the found ones have been looked at -/
structure GI (held : List (Str × Str)) (a : List El × List El) : Prop where
  nd : a.1.Nodup
  ok : ∀ x ∈ a.1, OrdOk held x.1 ∧ SgOk x.2
  sub : ∀ x ∈ a.2, x ∈ a.1
  le : a.2.length ≤ a.1.length
theorem getD_some {α : Type} {l : List α} {k : Nat} {d : α} (h : k < l.length) : l[k]? = some (l.getD k d) := by
  rw [List.getD_eq_getElem?_getD, List.getElem?_eq_getElem h]; rfl
theorem sg_mul {a b : Int} (h1 : SgOk a) (h2 : SgOk b) : SgOk (a * b) := by
  rcases h1 with rfl | rfl <;> rcases h2 with rfl | rfl <;> simp [SgOk]
theorem mvd_get {α : Type} {d : α} {row : List α} {o : List Nat} {i k : Nat} (h : o[i]? = some k) : (mvd d row o)[i]? = some (row.getD k d) := by
  unfold mvd
  rw [List.getElem?_map, h]; rfl
theorem nodup_get {α : Type} {l : List α} (h : l.Nodup) {i j : Nat} {a : α} (h1 : l[i]? = some a) (h2 : l[j]? = some a) : i = j := (List.getElem?_inj (List.getElem?_eq_some_iff.mp h1).1 h).mp (h1.trans h2.symm)
theorem nodup_of_get {α : Type} {l : List α} (h : ∀ (i j : Nat) (a : α), l[i]? = some a → l[j]? = some a → i = j) : l.Nodup := by
  refine List.pairwise_iff_getElem.mpr fun i j hi hj hij e => ?_
  have := h i j l[j] (by rw [List.getElem?_eq_getElem hi, e]) (List.getElem?_eq_getElem hj)
  omega
theorem ord_mvd {held : List (Str × Str)} {c o : List Nat} (h1 : OrdOk held c) (h2 : OrdOk held o) : OrdOk held (mvd 0 c o) := by
  have at_ : ∀ i x, (mvd 0 c o)[i]? = some x → ∃ k, o[i]? = some k ∧ c[k]? = some x := fun i x h => by
    unfold mvd at h
    rw [List.getElem?_map] at h
    cases q : o[i]? with
    | none => rw [q] at h; cases h
    | some k =>
      rw [q] at h
      cases h
      exact ⟨k, q, getD_some (by rw [h1.len]; exact h2.lt k (List.mem_of_getElem? q))⟩
  refine ⟨by unfold mvd; rw [List.length_map]; exact h2.len, fun x m => ?_, nodup_of_get fun i j a e1 e2 => ?_, fun i x h => ?_⟩
  · obtain ⟨i, hi⟩ := List.mem_iff_getElem?.mp m
    obtain ⟨k, e1, e2⟩ := at_ i x hi
    exact h1.lt x (List.mem_of_getElem? e2)
  · obtain ⟨k1, p1, q1⟩ := at_ i a e1
    obtain ⟨k2, p2, q2⟩ := at_ j a e2
    have := nodup_get h1.nd q1 q2
    subst this
    exact nodup_get h2.nd p1 p2
  · obtain ⟨k, e1, e2⟩ := at_ i x h
    rw [h1.at_ k x e2, h2.at_ i k e1]
theorem ord_still (held : List (Str × Str)) : OrdOk held (List.range held.length) :=
  ⟨by simp, fun k m => by simpa using m, List.nodup_range, fun i k h => by
    have := List.getElem?_eq_some_iff.mp h
    obtain ⟨l, e⟩ := this
    rw [List.getElem_range] at e
    rw [e]⟩
def seqs (n : Nat) : Nat → List (List Nat)
  | 0 => [[]]
  | k + 1 => (seqs n k).flatMap fun l => (List.range n).map fun x => x :: l
theorem mem_seqs {n : Nat} : ∀ {l : List Nat}, (∀ x ∈ l, x < n) → l ∈ seqs n l.length
  | [], _ => by simp [seqs]
  | x :: l, h => by
    rw [List.length_cons, seqs, List.mem_flatMap]
    exact ⟨l, mem_seqs fun y m => h y (List.mem_cons_of_mem _ m), List.mem_map.mpr ⟨x, List.mem_range.mpr (h x (List.mem_cons_self ..)), rfl⟩⟩
theorem len_seqs (n : Nat) : ∀ k, (seqs n k).length = n ^ k
  | 0 => rfl
  | k + 1 => by
    have : ∀ L : List (List Nat), (L.flatMap fun l => (List.range n).map fun x => x :: l).length = L.length * n := fun L => by
      induction L with
      | nil => simp
      | cons l L ih => rw [List.flatMap_cons, List.length_append, ih, List.length_map, List.length_range, List.length_cons, Nat.succ_mul]; omega
    rw [seqs, this, len_seqs n k, Nat.pow_succ]
theorem nodup_le {α : Type} [DecidableEq α] : ∀ {l m : List α}, l.Nodup → (∀ x ∈ l, x ∈ m) → l.length ≤ m.length
  | [], _, _, _ => Nat.zero_le _
  | x :: l, m, nd, h => by
    have hx := h x (List.mem_cons_self ..)
    obtain ⟨nx, nl⟩ := List.nodup_cons.mp nd
    have := nodup_le (l := l) (m := m.erase x) nl fun y hy => (List.mem_erase_of_ne (fun e => nx (by rw [← e]; exact hy))).mpr (h y (List.mem_cons_of_mem _ hy))
    have e := List.length_erase_of_mem hx
    have p : 0 < m.length := List.length_pos_of_mem hx
    rw [List.length_cons]
    omega
theorem GI.few {held : List (Str × Str)} {a : List El × List El} (h : GI held a) (hf : held.length ≤ 4) : a.1.length ≤ 512 := by
  have z : ∀ x ∈ a.1, x ∈ (seqs held.length held.length).flatMap fun l => [(l, (1 : Int)), (l, -1)] := fun x m => by
    obtain ⟨o, sg⟩ := h.ok x m
    refine List.mem_flatMap.mpr ⟨x.1, ?_, ?_⟩
    · have := mem_seqs (n := held.length) o.lt
      rw [o.len] at this; exact this
    · obtain ⟨o1, g1⟩ := x
      rcases sg with e | e
      · have e : g1 = 1 := e
        subst e; simp
      · have e : g1 = -1 := e
        subst e; simp
  have l := nodup_le h.nd z
  have : ∀ L : List (List Nat), (L.flatMap fun l => [(l, (1 : Int)), (l, -1)]).length = 2 * L.length := fun L => by
    induction L with
    | nil => rfl
    | cons l L ih => rw [List.flatMap_cons, List.length_append, ih]; simp; omega
  rw [this, len_seqs] at l
  have : held.length ^ held.length ≤ 256 := by
    rcases Nat.lt_or_ge held.length 5 with q | q
    · have : ∀ n : Fin 5, n.val ^ n.val ≤ 256 := by decide
      exact this ⟨held.length, q⟩
    · omega
  omega
theorem GI.step {held : List (Str × Str)} {a : List El × List El} {c m : El} (h : GI held a) (hc : OrdOk held c.1 ∧ SgOk c.2) (hm : OrdOk held m.1 ∧ SgOk m.2) : GI held (gstep c a m) ∧ (gstep c a m).1.length - (gstep c a m).2.length = a.1.length - a.2.length := by
  unfold gstep
  split
  · exact ⟨h, rfl⟩
  · rename_i n
    refine ⟨⟨List.nodup_append.mpr ⟨h.nd, by simp, fun x hx y hy e => n (by simp at hy; rw [← hy, ← e]; exact hx)⟩, fun x hx => ?_, fun x hx => ?_, by simp [h.le]⟩, by simp⟩
    · rcases List.mem_append.mp hx with hx | hx
      · exact h.ok x hx
      · rw [List.mem_singleton.mp hx]
        exact ⟨ord_mvd hc.1 hm.1, sg_mul hc.2 hm.2⟩
    · rcases List.mem_append.mp hx with hx | hx
      · exact List.mem_append_left _ (h.sub x hx)
      · exact List.mem_append_right _ hx
theorem GI.fold {held : List (Str × Str)} {c : El} (hc : OrdOk held c.1 ∧ SgOk c.2) : ∀ {moves : List El} {a : List El × List El}, (∀ m ∈ moves, OrdOk held m.1 ∧ SgOk m.2) → GI held a → GI held (gfold moves c a) ∧ (gfold moves c a).1.length - (gfold moves c a).2.length = a.1.length - a.2.length
  | [], _, _, h => ⟨h, rfl⟩
  | m :: ms, a, hm, h => by
    obtain ⟨h1, e1⟩ := h.step hc (hm m (List.mem_cons_self ..))
    obtain ⟨h2, e2⟩ := GI.fold hc (moves := ms) (fun x q => hm x (List.mem_cons_of_mem _ q)) h1
    exact ⟨h2, e2.trans e1⟩
theorem GI.pop {held : List (Str × Str)} {a : List El × List El} {c : El} (h : GI held a) (e : a.2.getLast? = some c) : GI held (a.1, a.2.dropLast) ∧ c ∈ a.1 ∧ a.1.length - a.2.dropLast.length = a.1.length - a.2.length + 1 := by
  have mem : c ∈ a.2 := List.mem_of_getLast? e
  have pos : 0 < a.2.length := List.length_pos_of_mem mem
  have := h.le
  refine ⟨⟨h.nd, h.ok, fun x m => h.sub x ((List.dropLast_sublist _).subset m), ?_⟩, h.sub c mem, ?_⟩
  · simp; omega
  · simp; omega
theorem GI.loop {held : List (Str × Str)} {moves : List El} (hm : ∀ m ∈ moves, OrdOk held m.1 ∧ SgOk m.2) : ∀ (n : Nat) {a : List El × List El}, GI held a → GI held (gloop moves n a, [])
  | 0, a, h => ⟨h.nd, h.ok, fun x m => by simp at m, Nat.zero_le _⟩
  | n + 1, a, h => by
    unfold gloop
    split
    · exact ⟨h.nd, h.ok, fun x m => by simp at m, Nat.zero_le _⟩
    · rename_i c e
      obtain ⟨h1, mc, _⟩ := h.pop e
      exact GI.loop hm n (GI.fold (h.ok c mc) hm h1).1
theorem gi_start (held : List (Str × Str)) : GI held ([stillO held.length], [stillO held.length]) :=
  ⟨by simp, fun x m => by rw [List.mem_singleton.mp m]; exact ⟨ord_still held, .inl rfl⟩, fun x m => m, Nat.le_refl _⟩
theorem grp_ok {sp : List Str} {b : Bx} (h : BxOk sp b) : GI b.slots (grp b, []) := GI.loop h.mv _ (gi_start b.slots)
theorem foldl_mono {a : List El × List El} {c : El} : ∀ {moves : List El}, ∀ x ∈ a.1, x ∈ (gfold moves c a).1
  | [], x, h => h
  | m :: ms, x, h => by
    show x ∈ (gfold ms c (gstep c a m)).1
    refine foldl_mono x ?_
    unfold gstep
    split
    · exact h
    · exact List.mem_append_left _ h
theorem gloop_mono {moves : List El} : ∀ (n : Nat) {a : List El × List El}, ∀ x ∈ a.1, x ∈ gloop moves n a
  | 0, a, x, h => h
  | n + 1, a, x, h => by
    unfold gloop
    split
    · exact h
    · exact gloop_mono n x (foldl_mono x h)
theorem grp_few {sp : List Str} {b : Bx} (h : BxOk sp b) : (grp b).length ≤ 512 := (grp_ok h).few h.few
theorem alike_eMv (a b : El) : PySem.W.alike (toD (eMv a)) (toD (eMv b)) = true := by
  have : ∀ o p : List Nat, PySem.W.alikeAll (toDs (o.map fun (k : Nat) => T.int (k : Int))) (toDs (p.map fun (k : Nat) => T.int (k : Int))) = true := fun o => by
    induction o with
    | nil => intro p; rw [List.map_nil, toDs, PySem.W.alikeAll]
    | cons k o ih =>
      intro p
      cases p with
      | nil => rw [List.map_cons, List.map_nil, toDs, toDs, PySem.W.alikeAll]
      | cons j p => rw [List.map_cons, List.map_cons, toDs, toDs, PySem.W.alikeAll, ih p]; rfl
  simp only [eMv, eOrd, toD, toDs, PySem.W.alike, PySem.W.alikeAll, this, Bool.and_true, Bool.true_and]
theorem srtOk_eMv {l : List El} (h : l.length ≤ 4000) : srtOk (l.map eMv) = true := by
  unfold srtOk
  simp only [Bool.and_eq_true, decide_eq_true_eq]
  refine ⟨⟨⟨⟨?_, by rw [List.length_map]; omega⟩, ?_⟩, ?_⟩, Nat.le_trans (depAll_le (n := 2) fun t m => ?_) (by omega)⟩
  · exact (cl_ok (t := .lst (l.map eMv)) (by rw [cl_lst]; exact cls_map fun a _ => cl_eMv a)).1
  · rw [toDs_map]
    refine List.all_eq_true.mpr fun d hd => List.all_eq_true.mpr fun e he => ?_
    obtain ⟨_, q, rfl⟩ := List.mem_map.mp hd
    obtain ⟨_, q2, rfl⟩ := List.mem_map.mp he
    obtain ⟨a, _, rfl⟩ := List.mem_map.mp q
    obtain ⟨b, _, rfl⟩ := List.mem_map.mp q2
    exact alike_eMv a b
  · rw [Bool.or_eq_true]
    left
    refine List.all_eq_true.mpr fun d hd => ?_
    obtain ⟨_, _, rfl⟩ := List.mem_map.mp hd
    rfl
  · obtain ⟨a, _, rfl⟩ := List.mem_map.mp m
    exact dep_eMv a
theorem sortT_perm' (ts : List T) : (sortT ts).Perm ts := List.mergeSort_perm _ _
end L2.Z
set_option Elab.async false
set_option linter.all false
set_option maxRecDepth 100000
set_option maxHeartbeats 3200000
namespace L2.Z
open PySem PySem.Spec PyProof.Rows
abbrev Sl2 := Str × Str
def boxOf (g : Gr) (nm : Str) : Option Bx := g.boxes.find? fun b => decide (b.name = nm)
theorem boxOf_mem {g : Gr} {nm : Str} {b : Bx} (h : boxOf g nm = some b) : b ∈ g.boxes ∧ b.name = nm := ⟨List.mem_of_find?_eq_some h, of_decide_eq_true (List.find?_some (p := fun b : Bx => decide (b.name = nm)) h)⟩
def slotsOf (g : Gr) (nm : Str) : List Sl2 := match boxOf g nm with
  | some b => b.slots
  | none => []
def occF (g : Gr) (f : Fac) : List (Str × Sl2) := f.2.zip (slotsOf g f.1)
def occ (g : Gr) (t : Tm) : List (Str × Sl2) := t.flatMap (occF g)
def addP : List (Str × List Sl2) → Str × Sl2 → List (Str × List Sl2)
  | [], p => [(p.1, [p.2])]
  | e :: r, p => if e.1 = p.1 then (e.1, e.2 ++ [p.2]) :: r else e :: addP r p
def plcL (L : List (Str × Sl2)) (acc : List (Str × List Sl2)) : List (Str × List Sl2) := L.foldl addP acc
/-- the slots in which a name stands -/
def heldL (L : List (Str × Sl2)) (n : Str) : List Sl2 := (L.filter fun p => decide (p.1 = n)).map (·.2)
def held (g : Gr) (t : Tm) (n : Str) : List Sl2 := heldL (occ g t) n
structure FacOk (g : Gr) (f : Fac) : Prop where
  bx : ∃ b, boxOf g f.1 = some b ∧ f.2.length = b.slots.length
  nm : ∀ z ∈ f.2, NameOk z
def Jn (l : List Sl2) : Prop := (∃ x, l = [x]) ∨ ∃ x y, l = [x, y] ∧ x.1 = y.1 ∧ x.2 ≠ y.2
structure TmOk (g : Gr) (t : Tm) : Prop where
  few : t.length ≤ 6
  fac : ∀ f ∈ t, FacOk g f
  jn : ∀ p ∈ occ g t, Jn (held g t p.1)
theorem FacOk.slots {g : Gr} {f : Fac} (h : FacOk g f) : (slotsOf g f.1).length = f.2.length := by
  obtain ⟨b, e, l⟩ := h.bx
  unfold slotsOf
  rw [e]; exact l.symm
structure PI (L : List (Str × Sl2)) (acc : List (Str × List Sl2)) : Prop where
  nd : (acc.map (·.1)).Nodup
  at_ : ∀ e ∈ acc, e.2 = heldL L e.1 ∧ e.2 ≠ []
  all : ∀ p ∈ L, p.1 ∈ acc.map (·.1)
theorem heldL_app (L : List (Str × Sl2)) (p : Str × Sl2) (n : Str) : heldL (L ++ [p]) n = heldL L n ++ (if p.1 = n then [p.2] else []) := by
  unfold heldL
  rw [List.filter_append, List.map_append]
  by_cases h : p.1 = n <;> simp [h]
theorem addP_keys : ∀ (acc : List (Str × List Sl2)) (p : Str × Sl2), (addP acc p).map (·.1) = if p.1 ∈ acc.map (·.1) then acc.map (·.1) else acc.map (·.1) ++ [p.1]
  | [], p => by simp [addP]
  | e :: r, p => by
    unfold addP
    by_cases h : e.1 = p.1
    · rw [if_pos h]; simp [h]
    · rw [if_neg h, List.map_cons, addP_keys r p]
      have : p.1 ≠ e.1 := fun q => h q.symm
      by_cases q : p.1 ∈ r.map (·.1)
      · rw [if_pos q, if_pos (by simp only [List.map_cons, List.mem_cons]; exact .inr q)]; rfl
      · rw [if_neg q, if_neg (by simp only [List.map_cons, List.mem_cons, not_or]; exact ⟨this, q⟩)]; rfl
theorem addP_mem : ∀ {acc : List (Str × List Sl2)} {p : Str × Sl2} {e : Str × List Sl2}, (acc.map (·.1)).Nodup → e ∈ addP acc p → (e ∈ acc ∧ e.1 ≠ p.1) ∨ (e.1 = p.1 ∧ ((∃ l, (p.1, l) ∈ acc ∧ e.2 = l ++ [p.2]) ∨ (p.1 ∉ acc.map (·.1) ∧ e.2 = [p.2])))
  | [], p, e, _, h => by
    simp only [addP, List.mem_singleton] at h
    subst h
    exact .inr ⟨rfl, .inr ⟨by simp, rfl⟩⟩
  | x :: r, p, e, nd, h => by
    rw [List.map_cons, List.nodup_cons] at nd
    unfold addP at h
    by_cases q : x.1 = p.1
    · rw [if_pos q] at h
      rcases List.mem_cons.mp h with rfl | h
      · exact .inr ⟨q, .inl ⟨x.2, List.mem_cons.mpr (.inl (by rw [← q])), rfl⟩⟩
      · exact .inl ⟨List.mem_cons_of_mem _ h, fun z => nd.1 (by rw [q, ← z]; exact List.mem_map.mpr ⟨e, h, rfl⟩)⟩
    · rw [if_neg q] at h
      rcases List.mem_cons.mp h with rfl | h
      · exact .inl ⟨List.mem_cons_self .., q⟩
      · rcases addP_mem nd.2 h with ⟨h1, h2⟩ | ⟨h1, ⟨l, h2, h3⟩ | ⟨h2, h3⟩⟩
        · exact .inl ⟨List.mem_cons_of_mem _ h1, h2⟩
        · exact .inr ⟨h1, .inl ⟨l, List.mem_cons_of_mem _ h2, h3⟩⟩
        · exact .inr ⟨h1, .inr ⟨by
            simp only [List.map_cons, List.mem_cons, not_or]
            exact ⟨fun z => q z.symm, h2⟩, h3⟩⟩
theorem heldL_none {L : List (Str × Sl2)} {n : Str} (h : ∀ p ∈ L, p.1 ≠ n) : heldL L n = [] := by
  unfold heldL
  rw [List.filter_eq_nil_iff.mpr fun p m => by simpa using h p m]; rfl
theorem PI.add {L : List (Str × Sl2)} {acc : List (Str × List Sl2)} (h : PI L acc) (p : Str × Sl2) : PI (L ++ [p]) (addP acc p) := by
  refine ⟨?_, fun e m => ?_, fun q m => ?_⟩
  · rw [addP_keys]
    split
    · exact h.nd
    · rename_i n
      exact List.nodup_append.mpr ⟨h.nd, by simp, fun a ha b hb e => n (by simp at hb; rw [← hb, ← e]; exact ha)⟩
  · rw [heldL_app]
    rcases addP_mem h.nd m with ⟨h1, h2⟩ | ⟨h1, ⟨l, h2, h3⟩ | ⟨h2, h3⟩⟩
    · rw [if_neg (fun z => h2 z.symm), List.append_nil]
      exact h.at_ e h1
    · rw [if_pos h1.symm, h3, h1, ← (h.at_ _ h2).1]
      exact ⟨rfl, by simp⟩
    · rw [if_pos h1.symm, h3, h1, heldL_none fun q hq e2 => h2 (by rw [← e2]; exact h.all q hq)]
      exact ⟨rfl, by simp⟩
  · rw [addP_keys]
    rcases List.mem_append.mp m with m | m
    · have := h.all q m
      split
      · exact this
      · exact List.mem_append_left _ this
    · rw [List.mem_singleton.mp m]
      split
      · assumption
      · simp
theorem PI.fold : ∀ (M : List (Str × Sl2)) {L : List (Str × Sl2)} {acc : List (Str × List Sl2)}, PI L acc → PI (L ++ M) (plcL M acc)
  | [], L, acc, h => by simpa [plcL] using h
  | p :: M, L, acc, h => by
    have := PI.fold M (h.add p)
    rw [List.append_assoc] at this
    exact this
def keyAt (acc : List (Str × List Sl2)) (n : Str) : Option Nat := acc.findIdx? fun e => decide (e.1 = n)
theorem addP_new : ∀ {acc : List (Str × List Sl2)} {p : Str × Sl2}, keyAt acc p.1 = none → addP acc p = acc ++ [(p.1, [p.2])]
  | [], p, _ => rfl
  | e :: r, p, h => by
    unfold keyAt at h
    rw [List.findIdx?_cons] at h
    unfold addP
    by_cases q : e.1 = p.1
    · simp [q] at h
    · rw [if_neg q]
      simp only [q, decide_false] at h
      rw [addP_new (by unfold keyAt; simpa using h)]; rfl
theorem addP_old : ∀ {acc : List (Str × List Sl2)} {p : Str × Sl2} {j : Nat}, keyAt acc p.1 = some j → ∃ e, acc[j]? = some e ∧ e.1 = p.1 ∧ addP acc p = acc.set j (e.1, e.2 ++ [p.2])
  | [], p, j, h => by simp [keyAt] at h
  | e :: r, p, j, h => by
    unfold keyAt at h
    rw [List.findIdx?_cons] at h
    unfold addP
    by_cases q : e.1 = p.1
    · simp only [q, decide_true] at h
      cases h
      exact ⟨e, rfl, q, by rw [if_pos q]; rfl⟩
    · rw [if_neg q]
      simp only [q, decide_false] at h
      cases z : r.findIdx? fun e => decide (e.1 = p.1) with
      | none => rw [z] at h; simp at h
      | some i =>
        rw [z] at h
        simp at h
        subst h
        obtain ⟨e', h1, h2, h3⟩ := addP_old (acc := r) (p := p) (j := i) z
        exact ⟨e', by simpa using h1, h2, by rw [h3]; rfl⟩
end L2.Z
set_option Elab.async false
set_option linter.all false
set_option maxRecDepth 100000
set_option maxHeartbeats 3200000
namespace L2.Z
open PySem PySem.Spec PyProof.Rows
inductive Stp where
  | swap (i j : Nat) | move (i : Nat) (o : List Nat) (sg : Int) | name (a b : Str)
def noF : Fac := (Str.empty, [])
def behind (t : Tm) : Stp → Int × Tm
  | .swap i j => (1, (t.set i (t.getD j noF)).set j (t.getD i noF))
  | .move i o sg => (sg, t.set i ((t.getD i noF).1, mvd Str.empty (t.getD i noF).2 o))
  | .name a b => (1, t.map fun f => (f.1, f.2.map fun n => if n = a then b else n))
end L2.Z
set_option Elab.async false
set_option linter.all false
set_option maxRecDepth 100000
set_option maxHeartbeats 3200000
namespace L2.Z
open PySem PySem.Spec PyProof.Rows
theorem ord_perm {o : List Nat} {n : Nat} (hl : o.length = n) (lt : ∀ k ∈ o, k < n) (nd : o.Nodup) : o.Perm (List.range n) := by
  refine (List.perm_ext_iff_of_nodup nd List.nodup_range).mpr fun a => ⟨fun h => List.mem_range.mpr (lt a h), fun h => ?_⟩
  rcases Classical.em (a ∈ o) with q | q
  · exact q
  · have := nodup_le (l := o) (m := (List.range n).erase a) nd fun x hx => (List.mem_erase_of_ne (fun e => q (by rw [← e]; exact hx))).mpr (List.mem_range.mpr (lt x hx))
    rw [List.length_erase_of_mem h, List.length_range] at this
    have p : 0 < n := by have := List.mem_range.mp h; omega
    omega
theorem map_getD_range {α : Type} (d : α) (l : List α) : (List.range l.length).map (fun k => l.getD k d) = l := by
  refine List.ext_getElem (by simp) fun i h1 h2 => ?_
  rw [List.getElem_map, List.getElem_range, List.getD_eq_getElem?_getD, List.getElem?_eq_getElem h2]; rfl
def led : Tm → List Stp → Int × Tm
  | t, [] => (1, t)
  | t, p :: ps => ((behind t p).1 * (led (behind t p).2 ps).1, (led (behind t p).2 ps).2)
end L2.Z
set_option Elab.async false
set_option linter.all false
set_option maxRecDepth 100000
set_option maxHeartbeats 2000000
namespace L2.Z
open PySem PySem.Spec PyProof.Rows
section
variable {K : Kx} {g : G} {H : Hp}
end
section
variable {X : Cx} {e : Expr} {f : Ev} {tpos apos cpos : Pos} {elts : List Expr} {kk : Nat}
end
end L2.Z
set_option Elab.async false
set_option linter.all false
set_option maxRecDepth 100000
set_option maxHeartbeats 2000000
namespace L2.Z
open PySem PySem.Spec PyProof.Rows
section
variable {X : Cx} {e : Expr} {fp : Ep} {pos : Pos}
end
end L2.Z
set_option Elab.async false
set_option linter.all false
set_option maxRecDepth 100000
set_option maxHeartbeats 2000000
namespace L2.Z
open PySem PySem.Spec PyProof.Rows
def intsOf : List T → Option (List Int)
  | [] => some []
  | .int i :: r => (intsOf r).map (i :: ·)
  | _ => none
theorem intsOf_rep {K : Kx} {g : G} {H : Hp} : ∀ {vs : List V} {ts : List T} {ns : List Int}, RepL K g H vs ts → intsOf ts = some ns → vs = ns.map V.int
  | _, _, _, .nil, h => by cases h; rfl
  | _, t :: ts, ns, .cons r rs, h => by
    cases t with
    | int i =>
      cases q : intsOf ts with
      | none => rw [intsOf, q] at h; cases h
      | some ms =>
        rw [intsOf, q] at h
        cases h
        cases rep_int r
        rw [intsOf_rep rs q]
        rfl
    | _ => cases h
/-- t.index(x): a tuple of whole numbers -/
def fIdx (f h : Ev) : Ev := fun s => (f s).bind fun t s1 => (h s1).bind fun x s2 => match t, x with
  | .tup ts, .int j => match (intsOf ts).bind (posI j) with
    | some k => .ok (.int (k : Nat)) s2
    | none => .no
  | _, _ => .no
section
variable {X : Cx} {o c e tg : Expr} {f h : Ev} {fa : Ea} {pos apos cpos : Pos}
theorem fe_idx (ho : FE X o f) (hc : FE X c h)
    (hbase : attributeBase o "index" X.env (eval o X.env) = eval o X.env := by rfl)
    (hfew : ((backTo cpos (starEach (c :: []) X.env)).all (fun x => !x.1) && (backToKw cpos (keywordEach [] X.env)).all (fun x => x.1.isSome)
      && decide ((c :: ([] : List Expr)).length + ([] : List Keyword).length + (if ([] : List Keyword).isEmpty then 0 else 1) < 30)) = true := by rfl)
    (hline : (apos.endLine == cpos.line) = true := by rfl) (hs : starEach (c :: []) X.env = (false, eval c X.env) :: starEach [] X.env := by rfl) (hplain : (backTo cpos (starEach [] X.env)).any (·.1) = false := by rfl) :
    FE X (.Call (.Attribute o "index" apos) [c] [] cpos) (fIdx f h) := pe_mono (pe_bmT PySem.F.slot_tuple_index PySem.F.type_tuple_index mt_posI ho (pa_cons hc pa_nil hs) hbase hfew hline hs hplain) fun σ H Q ⟨b, g, s, v, s', m, ev, q⟩ => by
  obtain ⟨t, s1, e1, ev⟩ := bind_ok ev
  obtain ⟨x, s2, e2, ev⟩ := bind_ok ev
  refine ⟨b, g, s, t, s1, m, e1, fun g1 H1 V m1 t1 r1 => ?_⟩
  split at ev
  · rename_i ts j _
    obtain ⟨a, vs, rfl, h1, hn, h2⟩ := rep_tupN r1
    refine ⟨⟨a, vs, rfl, h1, hn⟩, b, g1, s1, _, _, m1, e2, fun g2 H2 V2 m2 t2 r2 => ?_⟩
    split at ev
    · rename_i k hk
      cases ev
      cases q0 : intsOf ts with
      | none => rw [q0] at hk; cases hk
      | some ns =>
        rw [q0] at hk
        have ev := intsOf_rep h2 q0
        subst ev
        cases rep_int r2
        exact ⟨a, ns, j, k, rfl, rfl, sqT_step t2 h1, hk, q g2 H2 _ m2 (t1.trans t2) (.int _)⟩
    · cases ev
  · cases ev
end
section
variable {f h : Ev} {fa : Ea} {s : S}
@[simp] theorem x_fIdx : fIdx f h s = (f s).bind fun t s1 => (h s1).bind fun x s2 => match t, x with
  | .tup ts, .int j => (match (intsOf ts).bind (posI j) with
    | some k => .ok (.int (k : Nat)) s2
    | none => .no)
  | _, _ => .no := rfl
end
/-- a written thing without a dict -/
theorem ndB_ok {K : PySem.W.Frag} {a : Addr} (h : ndB K a = true) : ∃ o, K.lookup a = some o ∧ o.dict = none := by
  unfold ndB at h
  split at h
  · rename_i o e
    exact ⟨o, e, Option.isNone_iff_eq_none.mp h⟩
  · cases h
end L2.Z
set_option Elab.async false
set_option linter.all false
set_option maxRecDepth 100000
set_option maxHeartbeats 3200000
namespace L2.Z
open PySem PySem.Spec PyProof.Rows
inductive GenE (n : Nat) (moves : List El) : El → Prop
  | still : GenE n moves (stillO n)
  | step {c m} : GenE n moves c → m ∈ moves → GenE n moves (reach c m)
/-- all found come of the moves; what was looked at is closed -/
structure GJ (n : Nat) (moves : List El) (a : List El × List El) : Prop where
  gen : ∀ x ∈ a.1, GenE n moves x
  don : ∀ x ∈ a.1, x ∈ a.2 ∨ ∀ m ∈ moves, reach x m ∈ a.1
theorem gstep_mono2 {a : List El × List El} {c m x : El} (h : x ∈ a.2) : x ∈ (gstep c a m).2 := by
  unfold gstep
  split
  · exact h
  · exact List.mem_append_left _ h
theorem gstep_has (a : List El × List El) (c m : El) : reach c m ∈ (gstep c a m).1 := by
  unfold gstep
  split
  · assumption
  · simp
theorem gstep_new {a : List El × List El} {c m x : El} (h : x ∈ (gstep c a m).1) : x ∈ a.1 ∨ (x = reach c m ∧ x ∈ (gstep c a m).2) := by
  unfold gstep at h ⊢
  split at h
  · exact .inl h
  · rename_i n
    rw [if_neg n]
    rcases List.mem_append.mp h with h | h
    · exact .inl h
    · rw [List.mem_singleton] at h
      exact .inr ⟨h, by simp [h]⟩
theorem gfold_mono2 {c : El} : ∀ {moves : List El} {a : List El × List El} {x : El}, x ∈ a.2 → x ∈ (gfold moves c a).2
  | [], _, _, h => h
  | m :: ms, a, x, h => gfold_mono2 (moves := ms) (gstep_mono2 h)
theorem gfold_has {c : El} : ∀ {moves : List El} {a : List El × List El} {m : El}, m ∈ moves → reach c m ∈ (gfold moves c a).1
  | m :: ms, a, x, h => by
    rcases List.mem_cons.mp h with rfl | h
    · exact foldl_mono (moves := ms) _ (gstep_has a c x)
    · exact gfold_has (moves := ms) h
theorem gfold_new {n : Nat} {all : List El} {c : El} (hc : GenE n all c) : ∀ {moves : List El} {a : List El × List El} {x : El}, (∀ m ∈ moves, m ∈ all) → x ∈ (gfold moves c a).1 → x ∈ a.1 ∨ (GenE n all x ∧ x ∈ (gfold moves c a).2)
  | [], _, _, _, h => .inl h
  | m :: ms, a, x, hm, h => by
    rcases gfold_new hc (moves := ms) (fun y q => hm y (List.mem_cons_of_mem _ q)) h with h | h
    · rcases gstep_new h with h | ⟨e, h⟩
      · exact .inl h
      · exact .inr ⟨e ▸ .step hc (hm m (List.mem_cons_self ..)), gfold_mono2 (moves := ms) h⟩
    · exact .inr h
theorem GJ.turn {n : Nat} {moves : List El} {a : List El × List El} {c : El} (h : GJ n moves a) (e : a.2.getLast? = some c) (hc : c ∈ a.1) : GJ n moves (gfold moves c (a.1, a.2.dropLast)) := by
  have hl : a.2 = a.2.dropLast ++ [c] := by
    obtain ⟨ys, q⟩ := List.getLast?_eq_some_iff.mp e
    rw [q, List.dropLast_concat]
  refine ⟨fun x m => ?_, fun x m => ?_⟩
  · rcases gfold_new (h.gen c hc) (fun y q => q) m with q | q
    · exact h.gen x q
    · exact q.1
  · rcases gfold_new (h.gen c hc) (fun y q => q) m with q | q
    · rcases h.don x q with q2 | q2
      · rw [hl] at q2
        rcases List.mem_append.mp q2 with q2 | q2
        · exact .inl (gfold_mono2 q2)
        · rw [List.mem_singleton] at q2
          subst q2
          exact .inr fun y hy => gfold_has hy
      · exact .inr fun y hy => foldl_mono _ (q2 y hy)
    · exact .inl q.2
theorem gloop_end {held : List (Str × Str)} {moves : List El} (hm : ∀ m ∈ moves, OrdOk held m.1 ∧ SgOk m.2) (hf : held.length ≤ 4) : ∀ (k : Nat) {a : List El × List El}, GI held a → GJ held.length moves a → 513 - (a.1.length - a.2.length) ≤ k →
    (∀ x ∈ gloop moves k a, GenE held.length moves x) ∧ ∀ x ∈ gloop moves k a, ∀ m ∈ moves, reach x m ∈ gloop moves k a
  | 0, a, hI, hJ, hk => by
    have := hI.few hf
    omega
  | k + 1, a, hI, hJ, hk => by
    unfold gloop
    split
    · rename_i e
      have z : a.2 = [] := List.getLast?_eq_none_iff.mp e
      refine ⟨hJ.gen, fun x m => ?_⟩
      rcases hJ.don x m with q | q
      · rw [z] at q; cases q
      · exact q
    · rename_i c e
      obtain ⟨h1, mc, hn⟩ := hI.pop e
      have h2 := GI.fold (hI.ok c mc) hm h1
      refine gloop_end hm hf k h2.1 (hJ.turn e mc) ?_
      rw [h2.2]
      show 513 - (a.1.length - a.2.dropLast.length) ≤ k
      omega
theorem grp_gen {sp : List Str} {b : Bx} (h : BxOk sp b) : (∀ x ∈ grp b, GenE b.slots.length b.moves x) ∧ ∀ x ∈ grp b, ∀ m ∈ b.moves, reach x m ∈ grp b :=
  gloop_end h.mv h.few 1000000 (gi_start b.slots) ⟨fun x m => by rw [List.mem_singleton.mp m]; exact .still, fun x m => .inl m⟩ (by simp)
theorem grp_iff {sp : List Str} {b : Bx} (h : BxOk sp b) (x : El) : x ∈ grp b ↔ GenE b.slots.length b.moves x := by
  refine ⟨(grp_gen h).1 x, fun g => ?_⟩
  induction g with
  | still => exact gloop_mono _ (stillO b.slots.length) (by simp)
  | step _ hm ih => exact (grp_gen h).2 _ ih _ hm
theorem reach_still {n : Nat} {x : El} (h : x.1.length = n) : reach x (stillO n) = x := by
  obtain ⟨o, s⟩ := x
  simp only [reach, stillO, Int.mul_one, Prod.mk.injEq, and_true]
  subst h
  exact map_getD_range 0 o
theorem mvd_assoc {α : Type} {d : α} {row : List α} {c m : List Nat} (h : ∀ k ∈ m, k < c.length) : mvd d (mvd d row c) m = mvd d row (mvd 0 c m) := by
  simp only [mvd, List.map_map]
  refine List.map_congr_left fun k hk => ?_
  simp only [Function.comp]
  rw [List.getD_eq_getElem?_getD, List.getElem?_map, getD_some (d := 0) (h k hk)]
  rfl
theorem reach_assoc {x c m : El} (h : ∀ k ∈ m.1, k < c.1.length) : reach (reach x c) m = reach x (reach c m) := by
  simp only [reach, mvd_assoc h, Int.mul_assoc]
theorem GenE.ok {held : List (Str × Str)} {moves : List El} (hm : ∀ m ∈ moves, OrdOk held m.1 ∧ SgOk m.2) {x : El} (g : GenE held.length moves x) : OrdOk held x.1 ∧ SgOk x.2 := by
  induction g with
  | still => exact ⟨ord_still held, .inl rfl⟩
  | step _ h ih => exact ⟨ord_mvd ih.1 (hm _ h).1, sg_mul ih.2 (hm _ h).2⟩
theorem GenE.mul {held : List (Str × Str)} {moves : List El} (hm : ∀ m ∈ moves, OrdOk held m.1 ∧ SgOk m.2) {x y : El} (gx : GenE held.length moves x) (gy : GenE held.length moves y) : GenE held.length moves (reach x y) := by
  induction gy with
  | still => rw [reach_still (GenE.ok hm gx).1.len]; exact gx
  | @step c m gc h ih =>
    have oc := (GenE.ok hm gc).1
    have om := (hm m h).1
    rw [← reach_assoc (fun k hk => by rw [oc.len]; exact om.lt k hk)]
    exact .step ih h
def invO (o : List Nat) : List Nat := (List.range o.length).map fun k => o.idxOf k
def pwO (o : List Nat) : Nat → List Nat
  | 0 => List.range o.length
  | k + 1 => mvd 0 (pwO o k) o
theorem inv_pw : ∀ n : Fin 5, ∀ o ∈ seqs n.val n.val, o.Nodup → invO o = pwO o 11 := by decide +kernel
theorem inv_pow {o : List Nat} {n : Nat} (hn : n ≤ 4) (hl : o.length = n) (lt : ∀ k ∈ o, k < n) (nd : o.Nodup) : invO o = pwO o 11 := by
  refine inv_pw ⟨n, by omega⟩ o ?_ nd
  have := mem_seqs (n := n) lt
  rw [hl] at this
  exact this
theorem GenE.pow {held : List (Str × Str)} {moves : List El} (hm : ∀ m ∈ moves, OrdOk held m.1 ∧ SgOk m.2) {x : El} (gx : GenE held.length moves x) : ∀ k, GenE held.length moves (pwO x.1 k, x.2 ^ k)
  | 0 => by
    have : (pwO x.1 0, x.2 ^ 0) = stillO held.length := by
      rw [stillO, pwO, (GenE.ok hm gx).1.len, Int.pow_zero]
    rw [this]
    exact .still
  | k + 1 => by
    have : (pwO x.1 (k + 1), x.2 ^ (k + 1)) = reach (pwO x.1 k, x.2 ^ k) x := by rw [Int.pow_succ]; rfl
    rw [this]
    exact GenE.mul hm (GenE.pow hm gx k) gx
theorem sg11 {s : Int} (h : SgOk s) : s ^ 11 = s := by
  rcases h with rfl | rfl <;> decide
theorem sgsq {s : Int} (h : SgOk s) : s * s = 1 := by
  rcases h with rfl | rfl <;> decide
theorem grp_inv {sp : List Str} {b : Bx} (h : BxOk sp b) {o : List Nat} {s : Int} (m : (o, s) ∈ grp b) : (invO o, s) ∈ grp b := by
  obtain ⟨oo, sg⟩ := (grp_ok h).ok _ m
  have oo : OrdOk b.slots o := oo
  have gx := (grp_iff h (o, s)).mp m
  have := GenE.pow h.mv gx 11
  rw [show (o, s).1 = o from rfl, show (o, s).2 = s from rfl, ← inv_pow h.few oo.len oo.lt oo.nd, sg11 sg] at this
  exact (grp_iff h _).mpr this
theorem idx_of {o : List Nat} {n k : Nat} (hl : o.length = n) (lt : ∀ k ∈ o, k < n) (nd : o.Nodup) (hk : k < n) : o[o.idxOf k]? = some k := by
  have hm : k ∈ o := (ord_perm hl lt nd).mem_iff.mpr (List.mem_range.mpr hk)
  rw [List.getElem?_eq_getElem (List.idxOf_lt_length_of_mem hm)]
  simp
theorem mvd_inv {α : Type} {d : α} {row : List α} {o : List Nat} (hr : row.length = o.length) (lt : ∀ k ∈ o, k < o.length) (nd : o.Nodup) : mvd d (mvd d row o) (invO o) = row := by
  have e : mvd d (mvd d row o) (invO o) = (List.range row.length).map fun k => row.getD k d := by
    rw [hr]
    unfold invO mvd
    rw [List.map_map]
    refine List.map_congr_left fun k hk => ?_
    have hk := List.mem_range.mp hk
    simp only [Function.comp]
    rw [List.getD_eq_getElem?_getD, List.getElem?_map, idx_of rfl lt nd hk]
    rfl
  rw [e, map_getD_range]
end L2.Z
set_option Elab.async false
set_option linter.all false
set_option maxRecDepth 100000
set_option maxHeartbeats 2000000
namespace L2.Z
open PySem PySem.Spec PyProof.Rows
section
variable {X : Cx} {e o c a : Expr} {f h : Ev} {fa : Ea} {fp : Ep} {k : Bool} {pos apos cpos p : Pos}
end
end L2.Z
set_option Elab.async false
set_option linter.all false
set_option maxRecDepth 100000
set_option maxHeartbeats 2000000
namespace L2.Z
open PySem PySem.Spec PyProof.Rows
section
variable {X : Cx} {e o c a : Expr} {f h : Ev} {fa : Ea} {fp : Ep} {k : Bool} {pos apos cpos p : Pos}
end
section
variable {f h : Ev} {fa fq : Ea} {fp : Ep} {s : S} {i : Nat}
end
end L2.Z
set_option Elab.async false
set_option linter.all false
set_option maxRecDepth 100000
set_option maxHeartbeats 2000000
namespace L2.Z
open PySem PySem.Spec PyProof.Rows
section
variable {X : Cx} {e o c a d : Expr} {f h l : Ev} {fa : Ea} {fp : Ep} {k : Bool} {pos apos cpos p p' : Pos}
theorem paired_at {α β : Type} {F : α → β → Prop} {l : List α} {m : List β} (h : Paired F l m) : ∀ {j : Nat} {x : α} {y : β}, l[j]? = some x → m[j]? = some y → F x y := by
  induction h with
  | nil => intro j x y h1; simp at h1
  | cons hd _ ih =>
    intro j x y h1 h2
    cases j with
    | zero =>
      simp at h1 h2
      subst h1 h2
      exact hd
    | succ j => exact ih (by simpa using h1) (by simpa using h2)
end
section
variable {f h l : Ev} {fp : Ep} {s : S}
end
end L2.Z
set_option Elab.async false
set_option linter.all false
set_option maxRecDepth 100000
set_option maxHeartbeats 2000000
namespace L2.Z
open PySem PySem.Spec PyProof.Rows
/-- the first place that differs decides, by f there -/
def ltWith (f : PyData → PyData → Option Bool) : List PyData → List PyData → Option Bool
  | [], [] => some false
  | [], _ :: _ => some true
  | _ :: _, [] => some false
  | x :: xs, y :: ys => if PyData.eqv x y = true then ltWith f xs ys else f x y
def ltD : Nat → PyData → PyData → Option Bool
  | 0, _, _ => none
  | _ + 1, .int a, .int b => some (decide (a < b))
  | _ + 1, .str a, .str b => some (decide (a.cps.toList < b.cps.toList))
  | n + 1, .tuple xs, .tuple ys => ltWith (ltD n) xs ys
  | _ + 1, _, _ => none
section
open PySem.SeqAt MeetsSeq MeetsSeq2 MeetsSeq3 SeqRoads2
open AutoSeq1 (wpAny_loadPart')
theorem ltWith_end {f : PyData → PyData → Option Bool} : ∀ {xs ys : List PyData} {k : Bool}, (xs = [] ∨ ys = []) → ltWith f xs ys = some k → k = decide (xs.length < ys.length)
  | [], [], _, _, e => by simp [ltWith] at e; simp [e]
  | [], _ :: _, _, _, e => by simp [ltWith] at e; simp [e]
  | _ :: _, [], _, _, e => by simp [ltWith] at e; simp [e]
  | _ :: _, _ :: _, _, h, _ => by simp at h
theorem tup_lt_first (p q : Addr) (us ws : Array Value) (na nb : Nat) (da db : Option Addr) (la lb : Array (Option Value)) (f : PyData → PyData → Option Bool) (xs ys : List PyData) (k : Bool) (hxs : xs.length = us.size) (hys : ys.length = ws.size) (hf : ltWith f xs ys = some k) :
    Meets (Builtin.«tuple.__lt__» ⟨[.ref p, .ref q], []⟩)
      (fun A R s => s.heap.get? p = some { cls := .type "tuple", dict := da, data := .seq us na, slots := la } ∧ s.heap.get? q = some { cls := .type "tuple", dict := db, data := .seq ws nb, slots := lb } ∧
        (∀ j (a1 : j < us.size) (a2 : j < ws.size), EqAt A.in1 s us[j] ws[j] (PyData.eqv (xs[j]'(hxs ▸ a1)) (ys[j]'(hys ▸ a2)))) ∧
        (∀ j (a1 : j < us.size) (a2 : j < ws.size), PyData.eqv (xs[j]'(hxs ▸ a1)) (ys[j]'(hys ▸ a2)) = false → ∀ c, f (xs[j]'(hxs ▸ a1)) (ys[j]'(hys ▸ a2)) = some c → RcLt A.in1 s us[j] ws[j] c) ∧ R (.ok (.ret (.bool k))) s) :=
  .of_wp fun prog w A R s h => by
    obtain ⟨hp, gl, md, tk, os⟩ := s
    obtain ⟨z1, z2, heq, hrc, hR⟩ := h
    have f2 := AutoSeq1.sub_tuple_tuple
    have hlen : (us.toList.zip ws.toList).length = min us.size ws.size := by simp
    wp_walk using wpAny_loadPart' z1, wpAny_loadPart' z2, wpAny_forIn_list _ (fun rest b s' => b.1 = none ∧ s' = ⟨hp, gl, md, tk, os⟩ ∧ ∃ i, i ≤ min us.size ws.size ∧ rest = (us.toList.zip ws.toList).drop i ∧ ltWith f (xs.drop i) (ys.drop i) = some k) _
    case turn =>
      rintro ⟨y, x⟩ rest b s' ⟨hb', rfl, i, hi, hz, hk⟩
      have low : i < (us.toList.zip ws.toList).length := by
        refine Decidable.byContradiction fun no => ?_
        rw [List.drop_of_length_le (by omega)] at hz
        cases hz
      have c1 : i < us.size := by omega
      have c2 : i < ws.size := by omega
      rw [List.drop_eq_getElem_cons low] at hz
      injection hz with hhd htl
      obtain rfl : y = us[i] := by simpa using congrArg Prod.fst hhd
      obtain rfl : x = ws[i] := by simpa using congrArg Prod.snd hhd
      rw [List.drop_eq_getElem_cons (show i < xs.length by omega), List.drop_eq_getElem_cons (show i < ys.length by omega), ltWith] at hk
      refine wpAny_bind (heq i c1 c2 prog w _ _ ?_)
      cases hy : PyData.eqv (xs[i]'(hxs ▸ c1)) (ys[i]'(hys ▸ c2)) with
      | true =>
        rw [if_pos hy] at hk
        wp_walk
        exact ⟨rfl, rfl, i + 1, by omega, htl, hk⟩
      | false =>
        rw [if_neg (by rw [hy]; exact Bool.false_ne_true)] at hk
        generalize hRC : PySem.richCompare CmpOp.Lt us[i] ws[i] = RC
        wp_walk
        rw [← hRC]
        refine hrc i c1 c2 hy k hk prog w _ _ ?_
        wp_walk
        exact ⟨_, rfl, hR⟩
    case fin =>
      rintro ⟨b1, b2⟩ s' ⟨hb', rfl, i, hi, hz, hk⟩
      simp only at hb'
      subst hb'
      have up : min us.size ws.size ≤ i := by
        refine Decidable.byContradiction fun no => ?_
        rw [List.drop_eq_getElem_cons (by omega)] at hz
        cases hz
      obtain rfl : i = min us.size ws.size := by omega
      have hk2 := ltWith_end (by
        rcases Nat.le_total us.size ws.size with o | o
        · exact .inl (List.drop_of_length_le (by omega))
        · exact .inr (List.drop_of_length_le (by omega))) hk
      rw [List.length_drop, List.length_drop] at hk2
      have hk3 : k = decide (us.size < ws.size) := by
        rw [hk2]
        exact decide_eq_decide.mpr (by omega)
      rw [hk3] at hR
      wp_walk
      exact ⟨_, rfl, by simpa [Builtin.Tuple.tupleCompareSizes] using hR⟩
    case h =>
      exact ⟨rfl, rfl, 0, Nat.zero_le _, rfl, by simpa using hf⟩
theorem rcLt_first {A : Around} {s : Shared} {p q : Addr} {us ws : Array Value} {f : PyData → PyData → Option Bool} {xs ys : List PyData} {k : Bool} (z1 : s.heap.IsTuple p us) (z2 : s.heap.IsTuple q ws) (hu : A.units < cLine) (hxs : xs.length = us.size) (hys : ys.length = ws.size) (hf : ltWith f xs ys = some k)
    (heq : ∀ j (a1 : j < us.size) (a2 : j < ws.size), EqAt A.in1 s us[j] ws[j] (PyData.eqv (xs[j]'(hxs ▸ a1)) (ys[j]'(hys ▸ a2))))
    (hrc : ∀ j (a1 : j < us.size) (a2 : j < ws.size), PyData.eqv (xs[j]'(hxs ▸ a1)) (ys[j]'(hys ▸ a2)) = false → ∀ c, f (xs[j]'(hxs ▸ a1)) (ys[j]'(hys ▸ a2)) = some c → RcLt A.in1 s us[j] ws[j] c) : RcLt A s (.ref p) (.ref q) k := fun prog w E Q h => by
  obtain ⟨⟨_, da, _, la⟩, o1, o2, na, o3⟩ := id z1
  obtain ⟨⟨_, db, _, lb⟩, r1, r2, nb, r3⟩ := id z2
  simp only at o2 o3 r2 r3
  subst o2 o3 r2 r3
  exact richCompare_meets_room (op := .Lt) ⟨_, o1, rfl⟩ ⟨_, r1, rfl⟩ F.slot_tuple_lt F.entry_tuple_lt (F.args_tuple_lt_2 _ _) (tup_lt_first p q us ws na nb da db la lb f xs ys k hxs hys hf) ⟨o1, r1, heq, hrc, (fun x => nomatch x), h⟩ hu
theorem readsAll_at {h : Heap} : ∀ {vs : List Value} {ds : List PyData} {as : List Addr}, ReadsAll h vs ds as → PyData.plainAll ds = true → ∀ j (a1 : j < vs.length) (a2 : j < ds.length), (∃ as', Reads h vs[j] ds[j] as') ∧ ds[j].plain = true ∧ ds[j].depth ≤ PyData.depthAll ds
  | _, _, _, .nil, _, j, a1, _ => absurd a1 (Nat.not_lt_zero _)
  | _, _, _, .cons (ds := ds) r rs, hp, j, a1, a2 => by
    rw [PyData.plainAll, Bool.and_eq_true] at hp
    rw [PyData.depthAll]
    cases j with
    | zero => exact ⟨⟨_, r⟩, hp.1, Nat.le_max_left _ _⟩
    | succ j =>
      obtain ⟨q1, q2, q3⟩ := readsAll_at rs hp.2 j (Nat.lt_of_succ_lt_succ a1) (Nat.lt_of_succ_lt_succ a2)
      exact ⟨q1, q2, Nat.le_trans q3 (Nat.le_max_right _ _)⟩
/-- a < b of data: as far as ltD tells -/
theorem rcLt_data : ∀ (n : Nat) (d e : PyData) (k : Bool) (A : Around) (s : Shared) (a b : Value) (as bs : List Addr), Reads s.heap a d as → Reads s.heap b e bs → d.plain = true → e.plain = true → A.units + min d.depth e.depth < cLine → ltD n d e = some k → RcLt A s a b k
  | 0, _, _, _, _, _, _, _, _, _, _, _, _, _, _, h => by simp [ltD] at h
  | n + 1, d, e, k, A, s, a, b, as, bs, ra, rb, hd, he, hu, h => by
    cases d with
    | int x =>
      cases e with
      | int y =>
        cases ra
        cases rb
        intro prog w E Q hq
        simp only [ltD, Option.some.injEq] at h
        subst h
        exact P.lt_int hq
      | _ => simp [ltD] at h
    | str x =>
      cases e with
      | str y =>
        cases ra
        cases rb
        intro prog w E Q hq
        simp only [ltD, Option.some.injEq] at h
        subst h
        exact P.lt_str hq
      | _ => simp [ltD] at h
    | tuple xs =>
      cases e with
      | tuple ys =>
        simp only [ltD] at h
        cases ra with
        | @tuple l o vs n0 _ as₁ h1 h2 h3 h4 =>
          cases rb with
          | @tuple l' o' vs' n0' _ bs₁ k1 k2 k3 k4 =>
            have n1 : vs.size = xs.length := by simpa using ReadsAll.length _ _ _ h4
            have n2 : vs'.size = ys.length := by simpa using ReadsAll.length _ _ _ k4
            rw [PyData.plain] at hd he
            have hlow : A.in1.units + min (PyData.depthAll xs) (PyData.depthAll ys) < cLine := room_in hu
            refine rcLt_first ⟨_, h1, h2, _, h3⟩ ⟨_, k1, k2, _, k3⟩ (room_here hu) n1.symm n2.symm h (fun j j1 j2 => ?_) fun j j1 j2 hj c hc => ?_
            · obtain ⟨⟨_, w1⟩, w2, w3⟩ := readsAll_at h4 hd j (by simpa using j1) (by omega)
              obtain ⟨⟨_, y1⟩, y2, y3⟩ := readsAll_at k4 he j (by simpa using j2) (by omega)
              exact eqAt_plain _ _ _ _ _ _ _ _ (by simpa using w1) (by simpa using y1) w2 y2 (by omega)
            · obtain ⟨⟨_, w1⟩, w2, w3⟩ := readsAll_at h4 hd j (by simpa using j1) (by omega)
              obtain ⟨⟨_, y1⟩, y2, y3⟩ := readsAll_at k4 he j (by simpa using j2) (by omega)
              exact rcLt_data n _ _ c _ _ _ _ _ _ (by simpa using w1) (by simpa using y1) w2 y2 (by omega) hc
      | _ => simp [ltD] at h
    | _ => cases e <;> simp [ltD] at h
end
end L2.Z
set_option Elab.async false
set_option linter.all false
set_option maxRecDepth 100000
set_option maxHeartbeats 2000000
namespace L2.Z
open PySem PySem.Spec PyProof.Rows
open PySem (IsZip IsZipHeld IsTupOf2 ZipSep2 Draws)
section
variable {prog : Program} {w : World} {A : Around} {E : Value → Shared → Prop} {s : Shared} {z TI TO i1 i2 : Addr} {fp1 fp2 : List Addr} {n1 n2 i : Nat} {P1 P2 : Nat → Value → Prop} {St1 St2 : Nat → Heap → Prop}
end
section
variable {X : Cx} {e e2 : Expr} {ta : TA} {p p2 pos pos2 : Pos}
end
end L2.Z
set_option Elab.async false
set_option linter.all false
set_option maxRecDepth 100000
set_option maxHeartbeats 2000000
namespace L2.Z
open PySem PySem.Spec PyProof.Rows
section
variable {prog : Program} {w : World} {A : Around} {E : Value → Shared → Prop} {s : Shared}
end
section
variable {X : Cx} {pos sp : Pos} {e1 e2 : Expr} {k : Nat}
end
end L2.Z
set_option Elab.async false
set_option linter.all false
set_option maxRecDepth 100000
set_option maxHeartbeats 2000000
namespace L2.Z
open PySem PySem.Spec PyProof.Rows
/-- n values by place, the rest by the names ks, in the parameters' order -/
structure KwB (K : PySem.W.Frag) (fd : FuncData) (ps : List Str) (n : Nat) (ks : List Str) : Prop where
  to : ∀ (s : Shared) (us ws : List Value), us.length = n → ws.length = ks.length → BindsTo s fd ⟨us, ks.zip ws⟩ (ps.zip (us ++ ws))
section
variable {X : Cx} {k n : Nat} {f : Addr} {fd : FuncData} {ps ks : List Str} {x : Str} {p pos kpos : Pos} {e : Expr} {es : List Expr} {kws : List Keyword} {fa fk r : Ea} {h : Ev} {F : Fd} {nm : Option Str}
abbrev FK (X : Cx) (kws : List Keyword) (f : Ea) : Prop := PK X kws (rdA X.kx f)
theorem fk_nil : FK X [] aNil := ⟨fun pos pins s σ H Q I ⟨b, g, s0, v, s', m, e, k⟩ => by
  cases e
  exact pk_nil.run pos pins s σ H Q I (k g H _ m Step.refl .nil)⟩
theorem fk_cons (ha : FE X e h) (hr : FK X kws r) : FK X (⟨nm, e, kpos⟩ :: kws) (aCons h r) := ⟨fun pos pins s σ H Q I ⟨b, g, s0, v, s', m, ev, k⟩ => by
  obtain ⟨t, s1, e1, ev⟩ := bind_ok ev
  obtain ⟨ts, s2, e2, ev⟩ := bind_ok ev
  cases ev
  exact (pk_cons ha hr).run pos pins s σ H Q I ⟨b, g, s0, t, s1, m, e1, fun g1 H1 V m1 t1 r1 => ⟨b, g1, s1, ts, _, m1, e2, fun g2 H2 Vs m2 t2 r2 => k g2 H2 _ m2 (t1.trans t2) (.cons (r1.step t2) r2)⟩⟩⟩
end
section
variable {fa fk : Ea} {s : S} {F : Fd} {n : Nat} {ps : Pats} {t : T}
end
end L2.Z
set_option Elab.async false
set_option linter.all false
set_option maxRecDepth 100000
set_option maxHeartbeats 2000000
namespace L2.Z
open PySem PySem.Spec PyProof.Rows
section
variable {X : Cx} {e : Expr} {fa : Ea} {p pos : Pos}
end
end L2.Z
set_option Elab.async false
set_option linter.all false
set_option maxRecDepth 100000
set_option maxHeartbeats 2000000
namespace L2.Z
open PySem PySem.Spec PyProof.Rows
def iAny (f : Ev) : Ea := fun s => (f s).bind fun t s1 => match t with
  | .lst ts => .ok ts s1
  | .tup ts => .ok ts s1
  | _ => .no
section
variable {X : Cx} {tg e : Expr} {f : Ev}
theorem fi_any (he : FE X e f) : FI X tg e (iAny f) := ⟨fun pins s σ H Rr I ⟨b, g, s0, vs, s', m, ev, k⟩ => by
  obtain ⟨t, s1, e1, ev⟩ := bind_ok ev
  cases t with
  | lst ts => exact (fi_lst he).run pins s σ H Rr I ⟨b, g, s0, vs, s', m, by unfold iLst; rw [e1]; exact ev, k⟩
  | tup ts => exact (fi_tup he).run pins s σ H Rr I ⟨b, g, s0, vs, s', m, by unfold iTp; rw [e1]; exact ev, k⟩
  | _ => cases ev⟩
end
section
variable {X : Cx} {o c : Expr} {h : Ev} {fp : Ep} {cpos apos : Pos}
end
section
variable {h : Ev} {fp : Ep} {s : S}
end
section
variable {f : Ev} {s : S}
@[simp] theorem x_iAny : iAny f s = (f s).bind fun t s1 => match t with | .lst ts => .ok ts s1 | .tup ts => .ok ts s1 | _ => .no := rfl
end
end L2.Z
set_option Elab.async false
set_option linter.all false
set_option maxRecDepth 100000
set_option maxHeartbeats 2000000
namespace L2.Z
open PySem PySem.Spec PyProof.Rows
section
variable {X : Cx}
end
end L2.Z
set_option Elab.async false
set_option linter.all false
set_option maxRecDepth 100000
set_option maxHeartbeats 2000000
namespace L2.Z
open PySem PySem.Spec PyProof.Rows
section
variable {X : Cx} {sf : Sv}
end
section
variable {X : Cx} {pins : List (Addr × Obj)} {σ : St} {H : Hp} {s : Shared} {a : Addr}
end
section
variable {X : Cx} {o e d : Expr} {apos cpos pos : Pos} {fp : Ep} {f h l : Ev}
end
section
variable {X : Cx} {pins : List (Addr × Obj)} {σ : St} {H : Hp} {s : Shared} {g : G} {a : Addr} {A : Around} {E : Value → Shared → Prop}
end
section
variable {X : Cx} {o i : Expr} {pos : Pos} {f h : Ev}
end
end L2.Z
set_option Elab.async false
set_option linter.all false
set_option maxRecDepth 100000
set_option maxHeartbeats 2000000
namespace L2.Z
open PySem PySem.Spec PyProof.Rows
section
variable {X : Cx} {pins : List (Addr × Obj)} {σ : St} {H : Hp} {s : Shared} {d : Addr} {ob : Obj}
end
section
variable {P0 : Program} {w0 : World} {K0 : PySem.W.Frag} {tg : Expr} {d : Addr} {ob : Obj} {es : Array DictEntry} {ep : Nat}
end
section
variable {X : Cx} {tg e : Expr} {td : TE} {f : Ev}
end
end L2.Z
set_option Elab.async false
set_option linter.all false
set_option maxRecDepth 100000
set_option maxHeartbeats 3200000
namespace L2.Z
open PySem PySem.Spec PyProof.Rows
section
variable {X : Cx} {pins : List (Addr × Obj)} {σ : St} {H : Hp} {s : Shared} {g : G}
end
section
variable {X : Cx} {pos p : Pos} {e : Expr} {fa : Ea}
end
end L2.Z
set_option Elab.async false
set_option linter.all false
set_option maxRecDepth 100000
set_option maxHeartbeats 3200000
namespace L2.Z
open PySem PySem.Spec PyProof.Rows
def nAll (kvs l : List (NestedKey × Addr × V)) : List (NestedKey × Addr × V) := l.foldl (fun a p => nPut a p.1 p.2.1 p.2.2) kvs
theorem P2.all : ∀ {l : List (NestedKey × Addr × V)} {us : List (NestedKey × Addr × Value)} {kvs : List (NestedKey × Addr × V)} {xs : List (NestedKey × Addr × Value)}, P2 kvs xs → P2 l us → P2 (nAll kvs l) (storedAllH xs us)
  | [], _, kvs, xs, h, r => by cases r; exact h
  | (k, b, v) :: l, _, kvs, xs, h, r => by
    cases r with
    | @cons _ q _ us hd tl =>
      obtain ⟨k', b', u⟩ := q
      obtain ⟨q1, q2, q3⟩ := hd
      have q1 : k = k' := q1
      have q2 : b = b' := q2
      subst q1 q2
      exact P2.all (l := l) (us := us) (kvs := nPut kvs k b v) (xs := storedH xs k b u) (h.put k b q3) tl
/-- such entries, as trees -/
def NR (K : Kx) (g : G) (H : Hp) (kvs : List (NestedKey × Addr × V)) (ks ts : List T) : Prop := RepL K g H (kvs.map fun p => .ref p.2.1) ks ∧ RepL K g H (kvs.map (·.2.2)) ts ∧ ks.map nkey = kvs.map (fun p => some p.1)
section
variable {K : Kx} {g g' : G} {H H' : Hp}
theorem NR.step {kvs : List (NestedKey × Addr × V)} {ks ts : List T} (h : NR K g H kvs ks ts) (t : Step g H g' H') : NR K g' H' kvs ks ts := ⟨h.1.step t, h.2.1.step t, h.2.2⟩
def nkOk (t : T) : Bool := isTupT t && (nkey t).isSome
end
section
variable {X : Cx} {pins : List (Addr × Obj)} {σ : St} {H : Hp} {s : Shared} {g : G}
end
section
variable {X : Cx} {pos p : Pos} {e : Expr} {fa : Ea}
end
section
variable {X : Cx} {o e : Expr} {apos cpos pos p0 : Pos} {fp : Ep} {fa : Ea}
end
end L2.Z
set_option Elab.async false
set_option linter.all false
set_option maxRecDepth 100000
set_option maxHeartbeats 3200000
namespace L2.Z
open PySem PySem.Spec PyProof.Rows
theorem upd_twice {H : Hp} {p : Addr} {a b : HO} : upd (upd H p a) p b = upd H p b := by
  funext q
  by_cases e : q = p
  · subst e; rw [upd_same, upd_same]
  · rw [upd_ne e, upd_ne e, upd_ne e]
section
variable {X : Cx} {pos p p2 pos2 : Pos} {e : Expr} {fa : Ea}
def rLenTx (K : Kx) : List V → Hp → VK → Prop := fun xs H Q => ∃ (a : Addr) (ks : List Str), xs = [.ref a] ∧ H a = some (SetXO K.P K.w a ks) ∧ Q (.int (ks.length : Nat)) H
theorem cr_lenTx : CallR X (.builtin "len") (rLenTx X.kx) := by
  intro pins s σ H xs us Q I rs ⟨a, ks, e, h1, q⟩
  subst e
  obtain ⟨u, rfl, ru⟩ := vals1 rs
  obtain rfl : u = Value.ref a := ru
  obtain ⟨o, es, ep, t, ho, hx, hd, g1, pk, hb, hf, hr, hl⟩ := (I.hok a _ h1).1
  have hl2 := pk.length_eq
  rw [List.length_map, Array.length_toList] at hl2
  exact call_len_set ho hx hd hf (by unfold scanBound at hb; omega) ⟨.int (ks.length : Nat), H, I.tok _, ⟨_, by rw [hl2]⟩, q⟩
/-- len(set(l)), l a list of texts -/
def fLenSet (f : Ea) : Ev := fun s => (f s).bind fun ts s1 => match isStrs ts with
  | some ys => if ys.length ≤ 4000 then .ok (.int ((ddS ys).length : Nat)) s1 else .no
  | none => .no
theorem fe_lenSet (hc : X.calm = true) (hg : Gl X "len") (hm : X.mg "len" = none) (hg2 : Gl X "set") (hm2 : X.mg "set" = none) (hq : FQ X true e fa)
    (he : starEach (e :: []) X.env = (false, eval e X.env) :: starEach [] X.env := by rfl) (he2 : starEach (.Call (.Name "set" p2) [e] [] pos2 :: []) X.env = (false, eval (.Call (.Name "set" p2) [e] [] pos2) X.env) :: starEach [] X.env := by rfl) :
    FE X (.Call (.Name "len" p) [.Call (.Name "set" p2) [e] [] pos2] [] pos) (fLenSet fa) :=
  pe_mono (pe_callB cr_lenTx hg hm (by decide +kernel) (pa_cons (pe_callTy (cr_setTx hc) hg2 hm2 (by decide +kernel) (fa_q hq he) (by decide) (by decide) he (by rfl)) pa_nil he2) (by decide) (by decide) he2 (by rfl)) fun σ H Q ⟨b, g, s, v, s', m, e, q⟩ => by
    obtain ⟨ts, s1, e1, e⟩ := bind_ok e
    split at e
    · rename_i ys hy
      split at e
      · rename_i c
        cases e
        refine ⟨b, g, s, ts, _, m, e1, fun g' H' a vs m' t' hs hr => ⟨a, ys, rfl, strs_rep hr hy ▸ hs, ?_, fun p2 hp2 => ⟨p2, ddS ys, rfl, upd_same, ?_⟩⟩⟩
        · have : scanBound = 4096 := rfl
          omega
        · have x1 : Ext H' (upd H' p2 (SetXO X.prog X.w p2 (ddS ys))) := Ext.new hp2
          exact q g' _ _ (m'.ext x1) (t'.trans (Step.ext x1)) (.int _)
      · cases e
    · cases e
end
section
variable {s : S} {f h l : Ev} {fp : Ep} {fa : Ea} {i : Nat} {sf : Sv}
@[simp] theorem x_fLenSet : fLenSet fa s = (fa s).bind fun ts s1 => match isStrs ts with
  | some ys => (if ys.length ≤ 4000 then .ok (.int ((ddS ys).length : Nat)) s1 else .no)
  | none => .no := rfl
end
end L2.Z
set_option Elab.async false
set_option linter.all false
set_option maxRecDepth 100000
set_option maxHeartbeats 3200000
namespace L2.Z
open PySem PySem.Spec PyProof.Rows
section
variable {prog : Program} {w : World} {A : Around} {E : Value → Shared → Prop} {s : Shared} {z TI TO i1 i2 : Addr} {fp1 fp2 : List Addr} {n1 n2 i : Nat} {P1 P2 : Nat → Value → Prop} {St1 St2 : Nat → Heap → Prop}
end
section
variable {X : Cx} {e e2 : Expr} {ta : TA} {p p2 pos pos2 : Pos}
end
end L2.Z
set_option Elab.async false
set_option linter.all false
set_option maxRecDepth 100000
set_option maxHeartbeats 2000000
namespace L2.Z
open PySem PySem.Spec PyProof.Rows
section
variable {X : Cx} {pos : Pos} {tg iter elt : Expr} {f : Ev} {fp : Ep} {ft : Et} {pt : Pat}
theorem ff_lcP {scope : Scope} {own : List (Str × Nat)} {us : List Nat} (hc : X.calm = true) (hN : X.N.Nodup) (hi : FP X iter fp) (ok : BlkOk X.N X.env.scope scope own) {ifs : List Expr}
    (hg : ∀ (s : Shared) (H : Hp) (C : Addr) (cl : List (Str × Addr)) (fp : List Addr), FG (X.blk s H scope (compEnvC scope cl C X.env) fp) tg us pt) (ht : ∀ (s : Shared) (H : Hp) (C : Addr) (cl : List (Str × Addr)) (fp : List Addr), FTs (X.blk s H scope (compEnvC scope cl C X.env) fp) ifs ft)
    (he : ∀ (s : Shared) (H : Hp) (C : Addr) (cl : List (Str × Addr)) (fp : List Addr), FE (X.blk s H scope (compEnvC scope cl C X.env) fp) elt f) (hv : (us.all fun i => (own.map (·.2)).contains i) = true := by rfl) (hs : ∀ x, foldedSetIterable iter X.env x = pure x := by intro _; rfl) :
    FF X (.ListComp elt [⟨tg, iter, ifs, 0⟩] scope pos) (aLcP fp pt ft f (own.map (·.2))) :=
  pe_mono (pe_lc hc hN (pi_fit (pi_list hi)) ok hg ht he hs) fun _ _ _ q => tLcP_of (fun i hi => by simpa using List.all_eq_true.mp hv i hi) q
end
end L2.Z
set_option Elab.async false
set_option linter.all false
set_option maxRecDepth 100000
set_option maxHeartbeats 2000000
namespace L2.Z
open PySem PySem.Spec PyProof.Rows
section
variable {X : Cx}
end
section
variable {X : Cx} {pos p : Pos} {e : Expr} {fa : Ea}
end
section
variable {s : S} {fa : Ea}
end
end L2.Z
set_option Elab.async false
set_option linter.all false
set_option maxRecDepth 100000
set_option maxHeartbeats 3200000
namespace L2.Z
open PySem PySem.Spec PyProof.Rows
section
variable {X : Cx} {pos apos cpos : Pos} {a c d e o i : Expr} {fp fq : Ep} {ft : Et} {h f : Ev}
end
section
variable {X : Cx} {pos apos cpos : Pos} {e : Expr} {h : Ev}
end
section
variable {X : Cx} {sf : Sv}
end
section
variable {s : S} {f h : Ev} {fp fq : Ep} {ft : Et} {i : Nat} {sf : Sv} {t : T}
end
end L2.Z
set_option Elab.async false
set_option linter.all false
set_option maxRecDepth 100000
set_option maxHeartbeats 3200000
namespace L2.Z
open PySem PySem.Spec PyProof.Rows
section
variable {X : Cx} {o e d : Expr} {apos cpos pos : Pos} {f h l : Ev}
end
section
variable {s : S} {f h l : Ev}
end
end L2.Z
set_option Elab.async false
set_option linter.all false
set_option maxRecDepth 100000
set_option maxHeartbeats 1000000
namespace L2.Z
open PySem PySem.Spec PyProof.Rows
section
variable {X : Cx} {pos : Pos}
end
end L2.Z
set_option Elab.async false
set_option linter.all false
set_option maxRecDepth 100000
set_option maxHeartbeats 3200000
namespace L2.Z
open PySem PySem.Spec PyProof.Rows
section
variable {X : Cx} {pins : List (Addr × Obj)} {σ : St} {H : Hp} {s : Shared} {g : G}
end
section
variable {X : Cx} {pos p : Pos} {e : Expr} {f : Ev}
end
section
variable {X : Cx} {o e : Expr} {apos cpos pos : Pos} {f h : Ev}
end
section
variable {s : S} {f h : Ev}
end
section
variable {s : S} {f : Ev}
end
end L2.Z
set_option Elab.async false
set_option linter.all false
set_option maxRecDepth 100000
set_option maxHeartbeats 3200000
namespace L2.Z
open PySem PySem.Spec PyProof.Rows
section
variable {fa : Ea} {pt : Pat} {ft : Et} {fk fv : Ev}
end
section
variable {X : Cx} {pos : Pos} {kx vx tg iter : Expr} {fa : Ea} {pt : Pat} {ft : Et} {fk fv : Ev}
end
section
variable {fa : Ea} {pt : Pat} {ft : Et} {fk fv : Ev} {vs : List Nat} {s : S}
end
end L2.Z
set_option Elab.async false
set_option linter.all false
set_option maxRecDepth 100000
set_option maxHeartbeats 2000000
namespace L2.Z
open PySem PySem.Spec PyProof.Rows
section
variable {X : Cx} {pins : List (Addr × Obj)} {σ : St} {H : Hp} {s : Shared} {d : Addr} {ob : Obj}
end
section
variable {P0 : Program} {w0 : World} {K0 : PySem.W.Frag} {d : Addr} {ob : Obj} {es : Array DictEntry} {ep : Nat}
end
section
variable {X : Cx} {e : Expr} {td : TE} {f : Ev} {tpos apos cpos : Pos} {elts : List Expr} {kk : Nat}
end
end L2.Z
set_option Elab.async false
set_option linter.all false
set_option maxRecDepth 100000
set_option maxHeartbeats 2000000
namespace L2.Z
open PySem PySem.Spec PyProof.Rows
section
variable {X : Cx}
end
section
variable {X : Cx} {pos p : Pos} {e : Expr} {fa : Ea}
end
section
variable {s : S} {fa : Ea}
end
section
variable {X : Cx}
end
end L2.Z
set_option Elab.async false
set_option linter.all false
set_option maxRecDepth 100000
set_option maxHeartbeats 3200000
namespace L2.Z
open PySem PySem.Spec PyProof.Rows
section
variable {X : Cx} {pins : List (Addr × Obj)} {σ : St} {H : Hp} {s : Shared}
end
section
variable {X : Cx} {e : Expr} {f : Ev} {p apos cpos pos : Pos}
end
section
variable {f : Ev} {s : S}
end
end L2.Z
set_option Elab.async false
set_option linter.all false
set_option maxRecDepth 100000
set_option maxHeartbeats 3200000
namespace L2.Z
open PySem PySem.Spec PyProof.Rows
section
variable {prog : Program} {w : World} {K : Type} [DecidableEq K] {knd : KeyKind prog w K} {A : Around} {E : Value → Shared → Prop} {s : Shared}
end
end L2.Z
set_option Elab.async false
set_option linter.all false
set_option maxRecDepth 100000
set_option maxHeartbeats 3200000
namespace L2.Z
open PySem PySem.Spec PyProof.Rows
section
variable {K : Kx} {g : G} {H : Hp}
end
section
variable {X : Cx}
end
end L2.Z
set_option Elab.async false
set_option linter.all false
set_option maxRecDepth 100000
set_option maxHeartbeats 2000000
namespace L2.Z
open PySem PySem.Spec PyProof.Rows
section
variable {X : Cx}
end
section
variable {X : Cx} {pos p : Pos} {e : Expr} {fa : Ea}
end
section
variable {s : S} {fa : Ea}
end
end L2.Z
set_option Elab.async false
set_option linter.all false
set_option maxRecDepth 100000
set_option maxHeartbeats 2000000
namespace L2.Z
open PySem PySem.Spec PyProof.Rows
section
variable {X : Cx} {pins : List (Addr × Obj)} {σ : St} {H : Hp} {s : Shared} {g : G}
end
section
variable {X : Cx} {pos p : Pos} {e : Expr} {f : Ev}
end
section
variable {f : Ev} {s : S}
end
end L2.Z
set_option Elab.async false
set_option linter.all false
set_option maxRecDepth 100000
set_option maxHeartbeats 2000000
namespace L2.Z
open PySem PySem.Spec PyProof.Rows
end L2.Z
set_option Elab.async false
set_option linter.all false
set_option maxRecDepth 100000
set_option maxHeartbeats 2000000
namespace L2.Z
open PySem PySem.Spec PyProof.Rows
section
variable {prog : Program} {w : World} {A : Around} {E : Value → Shared → Prop} {s : Shared}
end
section
variable {prog : Program} {w : World} {A : Around} {E : Value → Shared → Prop} {s : Shared}
end
section
variable {prog : Program} {w : World} {A : Around} {E : Value → Shared → Prop} {s : Shared}
end
section
variable {X : Cx} {e e2 : Expr} {ta : TA} {fa : Ea} {p pos tpos kp cp : Pos} {elts : List Expr} {kk j : Nat}
end
section
variable {prog : Program} {w : World} {A : Around} {E : Value → Shared → Prop} {s : Shared}
end
section
variable {prog : Program} {w : World} {A : Around} {E : Value → Shared → Prop} {s : Shared}
end
section
variable {X : Cx} {e e2 : Expr} {ta : TA} {fa : Ea} {p pos tpos kp cp : Pos} {elts : List Expr} {kk j : Nat}
end
section
variable {X : Cx} {e e2 : Expr} {ta : TA} {fa : Ea} {p pos tpos kp cp : Pos} {elts : List Expr} {kk j : Nat}
end
section
variable {X : Cx} {e e2 : Expr} {ta : TA} {fa : Ea} {p pos tpos kp cp : Pos} {elts : List Expr} {kk j : Nat}
end
section
variable {fa : Ea} {s : S}
end
end L2.Z
set_option Elab.async false
set_option linter.all false
set_option maxRecDepth 100000
set_option maxHeartbeats 3200000
namespace L2.Z
open PySem PySem.Spec PyProof.Rows
section
variable {K : Kx} {g g' : G} {H : Hp}
end
section
variable {X : Cx} {k : Nat} {f : Addr} {fd : FuncData} {ps : List Str} {x : Str} {p pos : Pos} {e : Expr} {es : List Expr} {fr : Ears} {F : Fd}
end
section
variable {F : Fd} {fr : Ears} {s : S}
end
end L2.Z
set_option Elab.async false
set_option linter.all false
set_option maxRecDepth 100000
set_option maxHeartbeats 3200000
namespace L2.Z
open PySem PySem.Spec PyProof.Rows
section
variable {X : Cx} {pos : Pos} {fa : Ens}
end
section
variable {p : Pat} {i : Nat} {f : Ens} {s : S}
end
end L2.Z
set_option Elab.async false
set_option linter.all false
set_option maxRecDepth 100000
set_option maxHeartbeats 3200000
namespace L2.Z
open PySem PySem.Spec PyProof.Rows
section
variable {X : Cx} {o c : Expr} {f h : Ev} {cpos apos : Pos}
end
section
variable {X : Cx} {e : Expr} {fp : Ep} {pos : Pos}
end
section
variable {f h : Ev} {s : S} {fp : Ep}
end
end L2.Z
set_option Elab.async false
set_option linter.all false
set_option maxRecDepth 100000
set_option maxHeartbeats 3200000
namespace L2.Z
open PySem PySem.Spec PyProof.Rows
end L2.Z
set_option Elab.async false
set_option linter.all false
set_option maxRecDepth 100000
set_option maxHeartbeats 3200000
namespace L2.Z
open PySem PySem.Spec PyProof.Rows
section
variable {X : Cx} {pos p : Pos} {e : Expr} {f : Ev} {s : S}
end
end L2.Z
set_option Elab.async false
set_option linter.all false
set_option maxRecDepth 100000
set_option maxHeartbeats 3200000
namespace L2.Z
open PySem PySem.Spec PyProof.Rows
section
variable {X : Cx} {o e d : Expr} {apos cpos : Pos} {fp : Ep} {h f : Ev}
end
section
variable {s : S} {fp : Ep} {h f : Ev}
end
end L2.Z
set_option Elab.async false
set_option linter.all false
set_option maxRecDepth 100000
set_option maxHeartbeats 3200000
namespace L2.Z
open PySem PySem.Spec PyProof.Rows
section
variable {X : Cx} {pos p : Pos} {e : Expr} {fa : Ea} {s : S}
end
end L2.Z
set_option Elab.async false
set_option linter.all false
set_option maxRecDepth 100000
set_option maxHeartbeats 3200000
namespace L2.Z
open PySem PySem.Spec PyProof.Rows HT
section
variable {prog : Program} {w : World} {A : Around} {E : Value → Shared → Prop} {s : Shared}
end
section
variable {X : Cx} {e : Expr} {f : Ev} {pos : Pos} {s : S}
end
end L2.Z
set_option Elab.async false
set_option linter.all false
set_option maxRecDepth 100000
set_option maxHeartbeats 3200000
namespace L2.Z
open PySem PySem.Spec PyProof.Rows
def fDicS : Ev := fun s => .ok (.dct [] []) s
theorem fe_dicS {X : Cx} {pos : Pos} : FE X (.Dict [] [] pos) fDicS := ⟨fun pins s0 σ H Q I ⟨b, g, s, v, s', m, e, k⟩ => by
  cases e
  refine thn ((pe_dnewK (X := X) (pos := pos)).run pins s0 σ H (fun x H1 => ∃ p, x = .ref p ∧ H p = none ∧ H1 = upd H p (.dK [])) I (fun p hp => ⟨p, rfl, hp, rfl⟩)) fun u s1 hh => ?_
  obtain ⟨x, H1, I1, rx, p, rfl, hp, rfl⟩ := hh
  obtain ⟨od, I2⟩ := I1.lock (d := p) (u := .dK []) upd_same trivial
  rw [upd_twice] at I2
  have x : Ext H (upd H p (.frz od (.dK []))) := Ext.new hp
  exact ⟨_, _, I2, rx, k g _ _ (m.ext x) (Step.ext x) (.dct (kvs := []) upd_same .nil .nil)⟩⟩
@[simp] theorem x_fDicS {s : S} : fDicS s = .ok (.dct [] []) s := rfl
end L2.Z
set_option Elab.async false
set_option linter.all false
set_option maxRecDepth 100000
set_option maxHeartbeats 3200000
namespace L2.Z
open PySem PySem.Spec PyProof.Rows
section
variable {prog : Program} {w : World} {A : Around} {s : Shared}
end
section
variable {X : Cx} {pins : List (Addr × Obj)} {σ : St} {H : Hp} {s : Shared} {g : G}
end
section
variable {X : Cx} {pos p : Pos} {e : Expr} {fp : Ep} {s : S}
end
end L2.Z
set_option Elab.async false
set_option linter.all false
set_option maxRecDepth 100000
set_option maxHeartbeats 3200000
namespace L2.Z
open PySem PySem.Spec PyProof.Rows
section
variable {X : Cx} {pos p : Pos} {e : Expr} {fa : Ea}
end
section
variable {X : Cx} {e : Expr} {f : En}
end
section
variable {X : Cx}
end
section
variable {X : Cx} {pos : Pos} {us : List Nat} {ps : Pats}
end
section
variable {fa : Ea} {f : En} {ps : Pats} {n : Nat} {t : T} {s : S}
end
end L2.Z
set_option Elab.async false
set_option linter.all false
set_option maxRecDepth 100000
set_option maxHeartbeats 3200000
namespace L2.Z
open PySem PySem.Spec PyProof.Rows
/-- an exception's dict is known -/
def XdOk (d : Option Addr) (H : Hp) : Prop := ∀ dd, d = some dd → ∃ fs, H dd = some (.xd fs)
/-- an exception as it is told: its class's name, one field and what it holds -/
def tokE : T → Option (Str × Option (Str × T))
  | .str c => some (c, none)
  | .tup [.str c, .str f, t] => some (c, some (f, t))
  | _ => none
/-- the field holds that -/
def FldOk (K : Kx) (ft : Option (Str × T)) (g : G) (H : Hp) (d : Option Addr) : Prop := ∀ p, ft = some p → ∃ (dd : Addr) (fs : List (Str × V)) (v : V), d = some dd ∧ H dd = some (.xd fs) ∧ fs.lookup p.1 = some v ∧ Rep K g H v p.2
/-- what is to hold of an exception told as e: of each class object that bears its name -/
def WEnd (K : Kx) (mg : Str → Option Value) (W : WX) (b : B) (g : G) (H : Hp) (s' : S) (e : T) : Prop := ∃ c ft, tokE e = some (c, ft) ∧ ∀ C, mg c = some (.ref C) → ∀ g' σ' H' d, Sim K b g' s' σ' H' → Step g H g' H' → XdOk d H' → FldOk K ft g' H' d → W (.ref C) d σ' H'
section
variable {K : Kx} {mg : Str → Option Value} {W : WX} {D : Ends} {σ : St} {H : Hp} {sf sh : Sv}
theorem WEnd.step {b : B} {g g1 : G} {H1 : Hp} {s' : S} {e : T} (t : Step g H g1 H1) (h : WEnd K mg W b g H s' e) : WEnd K mg W b g1 H1 s' e := by
  obtain ⟨c, ft, e1, k⟩ := h
  exact ⟨c, ft, e1, fun C hC g' σ' H' d m' t' xk fk => k C hC g' σ' H' d m' (t.trans t') xk fk⟩
end
section
variable {X : Cx} {W : WX} {sf sh : Sv} {ft : Et} {c : Expr} {pos : Pos}
end
section
variable {K : Kx} {mg : Str → Option Value} {W : WX} {D : Ends} {σ : St} {H : Hp} {sf : Sv} {fa : Ea} {us : List Nat} {pt : Pat}
/-- how a loop's rest ends -/
def XEnd (K : Kx) (mg : Str → Option Value) (W : WX) (b : B) (g : G) (H : Hp) (D : Ends) : R Fl → Prop
  | .ok fl s' => SEnd K b g H D s' fl
  | .exc e s' => WEnd K mg W b g H s' e
  | .no => False
theorem XEnd.step {b : B} {g g1 : G} {H1 : Hp} {r : R Fl} (t : Step g H g1 H1) (h : XEnd K mg W b g H D r) : XEnd K mg W b g1 H1 D r := by
  cases r with
  | ok fl s' => exact SEnd.step t h
  | exc e s' => exact WEnd.step t h
  | no => exact h
end
section
variable {X : Cx} {W : WX} {sf : Sv} {fa : Ea} {us : List Nat} {pt : Pat} {pos : Pos}
end
/-- how a call ends -/
def CXEnd (K : Kx) (mg : Str → Option Value) (g : G) (H : Hp) (Q : VK) (E : XK) : R Nw → Prop
  | .ok v s' => CEnd K g H Q s' v
  | .exc e s' => ∃ c ft, tokE e = some (c, ft) ∧ ∀ C, mg c = some (.ref C) → ∀ g' H' s2 σ2 d, Sim K ⟨g.call, H, []⟩ g' s2 σ2 H' → s2.st = s'.st → XdOk d H' → FldOk K ft g' H' d → E (.ref C) d H'
  | .no => False
def spX (K : Kx) (mg : Str → Option Value) (n : Nat) (F : Fd) : Sp := fun vs H Q E => vs.length = n ∧ ∃ b g s σ ts, Sim K b g s σ H ∧ RepL K g H vs ts ∧ CXEnd K mg g H Q E (F ts s.st)
structure FnGX (P : Program) (w : World) (K : PySem.W.Frag) (mg : Str → Option Value) (base : Heap) (k : Nat) (f : Addr) (fd : FuncData) (ps : List Str) (F : Fd) : Prop where
  run : ∀ (A : Around) (outer : List Env) (s : Shared) (H : Hp) (args : Args) (us : List Value) (vs : List V) (Q : VK) (E : XK), A.guards = some [] → Room k A → Env0 P w K mg base A outer s H → BindsTo s fd args (ps.zip us) → Vals vs us →
    spX ⟨K, P, w⟩ mg ps.length F vs H Q E → codeAny (model P w) A (.call (.ref f) args) (CR (L2.CX P w) outer P w H s Q E) s
section
variable {P : Program} {w : World} {K : PySem.W.Frag} {mg : Str → Option Value} {base : Heap} {x qual : Str} {params : Arguments} {body : List Stmt} {scope : Scope} {dvs : List V} {kws : List (Str × V)} {f : Addr} {fd : FuncData}
theorem FnGX.mono {ps : List Str} {F : Fd} {j k : Nat} (G : FnGX P w K mg base j f fd ps F) (h : j ≤ k) : FnGX P w K mg base k f fd ps F := ⟨fun A outer s H args us vs Q E hg hr => G.run A outer s H args us vs Q E hg (hr.mono h)⟩
end
end L2.Z
set_option Elab.async false
set_option linter.all false
set_option maxRecDepth 100000
set_option maxHeartbeats 3200000
namespace L2.Z
open PySem PySem.Spec PyProof.Rows
/-- a call's reading, exceptions and all -/
def rdNX (K : Kx) (mg : Str → Option Value) (W : WX) (f : En) : TE := fun σ H Q => ∃ b g s, Sim K b g s σ H ∧ match f s with
  | .ok v s' => NEnd K b g H σ s' Q v
  | .exc e s' => WEnd K mg W b g H s' e
  | .no => False
abbrev FNX (X : Cx) (W : WX) (e : Expr) (f : En) : Prop := PE X e (rdNX X.kx X.mg W f)
section
variable {X : Cx} {W : WX} {k : Nat} {f : Addr} {fd : FuncData} {ps : List Str} {x : Str} {p pos : Pos} {e : Expr} {es : List Expr} {fa : Ea} {F : Fd} {n : Nat}
theorem FldOk.back {K : Kx} {b : B} {g g' : G} {s s2 : S} {σ σ2 : St} {H H' : Hp} {ft : Option (Str × T)} {d : Option Addr} (fk : FldOk K ft g' H' d) (m : Sim K b g s σ H) (m' : Sim K ⟨g.call, H, []⟩ g' s2 σ2 H') : FldOk K ft (g'.back g) H' d := fun p hp => by
  obtain ⟨dd, fs, v, h1, h2, h3, r⟩ := fk p hp
  exact ⟨dd, fs, v, h1, h2, h3, (m.back m' r).2.2⟩
def LenFX (n : Nat) (F : Fd) : Prop := ∀ ts st, ts.length ≠ n → F ts st = .no
end
end L2.Z
set_option Elab.async false
set_option linter.all false
set_option maxRecDepth 100000
set_option maxHeartbeats 3200000
namespace L2.Z
open PySem PySem.Spec PyProof.Rows
section
variable {X : Cx} {W : WX} {e : Expr} {pos pos' : Pos} {f : En} {i : Nat} {x : Str}
end
section
variable {X : Cx} {x : Str} {c : Value} {body suite : List Stmt} {b₀ : Stmt} {np pos pos' : Pos} {sf sh : Sv} {mt : Str → Option Bool} {Wout : WX}
end
end L2.Z
set_option Elab.async false
set_option linter.all false
set_option maxRecDepth 100000
set_option maxHeartbeats 3200000
namespace L2.Z
open PySem PySem.Spec PyProof.Rows
/-- own classes, then what the base has -/
def endsIn (tl : List Value) : List Value → Bool
  | .ref _ :: r => endsIn tl r
  | l => l == tl
structure BaseK (tl : List Value) (nid : String) : Prop where
  made : ∃ B iid, ExcBaseFacts B nid iid tl
  pass : ∀ self, PySem.refuseLoop self "__setattr__" tl = pure ()
  obj : tl.contains (.type "object") = true
  ne : tl.isEmpty = false
  fl : ∀ c r, tl ≠ .ref c :: r
/-- what the written part says of the class -/
structure OexG (K : PySem.W.Frag) (C : Addr) : Prop where
  cls : ∃ tl nid nm q N bs bm sn sub ab col dd k0 k1 k2 k3 k5, BaseK tl nid ∧ K.lookup C = some (excClassObj nm q C N bs bm true sn sub ab col dd k0 k1 k2 k3 k5 nid) ∧ endsIn tl bm = true
  sa : PySem.W.findIn K (.ref C) "__setattr__" = some (some (.builtin "object.__setattr__"))
  exC : PySem.W.subIn K (.ref C) (.type "BaseException") = some true
  tyC : PySem.W.typeIn K (.ref C) = some (.type "type")
  kC : PySem.W.keepIn K (.ref C) = true
section
open Builtin Builtin.ObjectAttr
variable {P : Program} {w : World} {A : Around} {E : Value → Shared → Prop} {R : Result → Shared → Prop} {hp : Heap} {g : Array GenState} {d : Drawn} {t : Nat} {os : OsState}
end
section
variable {X : Cx} {pins : List (Addr × Obj)} {σ : St} {H : Hp} {s : Shared} {a C : Addr} {fld : Str} {y : V} {u : Value} {Q : Unit → Shared → Prop} {E : Value → Shared → Prop} {A : Around}
end
section
variable {X : Cx} {o e : Expr} {es : List Expr} {to te : TE} {ta : TA} {fld : Str} {p p' pos : Pos}
end
end L2.Z
set_option Elab.async false
set_option linter.all false
set_option maxRecDepth 100000
set_option maxHeartbeats 3200000
namespace L2.Z
open PySem PySem.Spec PyProof.Rows
section
variable {P : Program} {w : World} {K : PySem.W.Frag} {mg : Str → Option Value} {base : Heap} {x qual : Str} {params : Arguments} {scope : Scope} {dvs : List V} {kws : List (Str × V)} {f : Addr} {fd : FuncData}
end
section
variable {X : Cx} {W : WX} {x fld prm : Str} {C fI : Addr} {k : Nat} {fd : FuncData} {e : Expr} {fa : Ea} {p pos pos' : Pos}
end
end L2.Z
set_option Elab.async false
set_option linter.all false
set_option maxRecDepth 100000
set_option maxHeartbeats 3200000
namespace L2.Z
open PySem PySem.Spec PyProof.Rows
section
variable {f : En} {F : Fd} {fa : Ea} {sf sh : Sv} {s s1 s2 : S} {ts : List T} {t : T} {fl : Fl} {e : T} {i : Nat} {c : Str} {mt : Str → Option Bool}
end
end L2.Z
set_option Elab.async false
set_option linter.all false
set_option maxRecDepth 100000
set_option maxHeartbeats 3200000
namespace L2.Z
open PySem PySem.Spec PyProof.Rows
/-- what is wanted of a class that is raised and taken -/
structure ExcOk (K : PySem.W.Frag) (C : Addr) (fld : Str) : Prop where
  cls : OexG K C
  fld : PySem.W.findIn K (.ref C) fld = some none
  own : PySem.W.exmOne K (.ref C) (.ref C) = some true
end L2.Z
set_option Elab.async false
set_option linter.all false
set_option maxRecDepth 100000
set_option maxHeartbeats 3200000
namespace L2.Z
open PySem PySem.Spec PyProof.Rows
section
variable {X : Cx} {k : Nat} {f : Addr} {fd : FuncData} {ps : List Str} {x : Str} {p pos : Pos} {e : Expr} {es : List Expr} {fr : Ears} {F : Fd}
end
section
variable {F : Fd} {fr : Ears} {s : S}
end
end L2.Z
set_option Elab.async false
set_option linter.all false
set_option maxRecDepth 100000
set_option maxHeartbeats 2000000
namespace L2.Z
open PySem PySem.Spec PyProof.Rows
section
variable {X : Cx} {tg e : Expr} {f : Ev}
end
section
variable {X : Cx} {k : Nat} {f : Addr} {fd : FuncData} {ps : List Str} {x : Str} {p pos : Pos} {e : Expr} {es : List Expr} {fr : Ears} {F : Fd} {ff : Ev}
end
end L2.Z
set_option Elab.async false
set_option linter.all false
set_option maxRecDepth 100000
set_option maxHeartbeats 3200000
namespace L2.Z
open PySem PySem.Spec PyProof.Rows
section
variable {X : Cx} {pins : List (Addr × Obj)} {σ : St} {H : Hp} {s : Shared}
end
section
variable {X : Cx}
end
section
variable {X : Cx} {x n : Str} {te : Expr} {f : Value → Option Bool} {i j : Nat} {body : List Stmt} {p1 p2 p3 pos pos' : Pos} {tb : WX → TS} {Wout : WX}
end
end L2.Z
set_option Elab.async false
set_option linter.all false
set_option maxRecDepth 100000
set_option maxHeartbeats 3200000
namespace L2.Z
open PySem PySem.Spec PyProof.Rows
section
variable {K : Kx} {b : B} {g : G} {H : Hp} {σ : St} {s : S}
end
section
variable {X : Cx} {x n : Str} {te : Expr} {f : Value → Option Bool} {mt : Str → Option Bool} {i j : Nat} {body : List Stmt} {p1 p2 p3 pos pos' : Pos} {sf : Sv} {Wout : WX}
end
end L2.Z
set_option Elab.async false
set_option linter.all false
set_option maxRecDepth 100000
set_option maxHeartbeats 3200000
namespace L2.Z
open PySem PySem.Spec PyProof.Rows
open Classical in
/-- the lambda is called -/
noncomputable def fDeed (φ : G → Hp → Option (Option V) → Prop) (deed : List O → R Nw) : En := fun (s : S) => match (s.env[0]? : Option Slot) with
  | some (Slot.is ψ) => if ψ = φ then callF (fun _ st => deed st) [] s else .no
  | _ => .no
section
variable {K : Kx} {b : B} {g : G} {H : Hp} {σ τ : St} {s : S}
end
section
variable {X : Cx} {pins : List (Addr × Obj)} {σ : St} {H : Hp} {s : Shared} {f c' : Addr} {pm ctv : Value} {params : Arguments} {body : Expr} {scope : Scope} {N : List Str} {qg : Str} {sg : Scope} {g : Addr} {cdg : Value} {E0 : XK} {pn : List (Addr × Obj)} {xe : Value → Shared → Prop} {W : WX} {a : Str} {p1 p2 : Pos} {k : Nat} {fb : En} {env : List Slot}
end
end L2.Z
set_option Elab.async false
set_option linter.all false
set_option maxRecDepth 100000
set_option maxHeartbeats 3200000
namespace L2.Z
open PySem PySem.Spec PyProof.Rows
abbrev Phi := G → Hp → Option (Option V) → Prop
structure FnL (P : Program) (w : World) (K : PySem.W.Frag) (mg : Str → Option Value) (base : Heap) (k : Nat) (g : Addr) (fd : FuncData) (a : Str) (F : Phi → (List O → R Nw) → List O → R Nw) : Prop where
  run : ∀ (A : Around) (outer : List Env) (s : Shared) (H : Hp) (args : Args) (f : Addr) (φ : Phi) (deed : List O → R Nw) (Q : VK) (E : XK), A.guards = some [] → Room (k + 1) A → Env0 P w K mg base A outer s H → BindsTo s fd args [(a, .ref f)] →
    (∀ (N : List Str) (qg : Str) (sg : Scope) (g : Addr) (cdg : Value) (E0 : XK) (pn : List (Addr × Obj)) (xe : Value → Shared → Prop) (W : WX) (p1 p2 : Pos), N[0]? = some a → Vis sg a → Takes ((cxOf (L2.CX P w) P w K mg base N qg sg g cdg A outer s H E0).tr pn xe) W →
      Room k (A.deeper (envOfC qg sg s.heap.objs.size g cdg)) → FNX ((cxOf (L2.CX P w) P w K mg base N qg sg g cdg A outer s H E0).tr pn xe) W (.Call (.Name a p1) [] [] p2) (fDeed φ deed)) →
    (∃ b gg s0 σ v s', Sim ⟨K, P, w⟩ b gg s0 σ H ∧ SlotRep ⟨K, P, w⟩ gg.call H (some (some (.ref f))) (.is φ) ∧ F φ deed s0.st = .ok v s' ∧ CEnd ⟨K, P, w⟩ gg H Q s' v) →
    codeAny (model P w) A (.call (.ref g) args) (CR (L2.CX P w) outer P w H s Q E) s
section
variable {P : Program} {w : World} {K : PySem.W.Frag} {mg : Str → Option Value} {base : Heap} {x qual a : Str} {params : Arguments} {body : List Stmt} {scope : Scope} {dvs : List V} {kws : List (Str × V)} {g : Addr} {fd : FuncData}
end
section
variable {X : Cx} {pins : List (Addr × Obj)} {σ : St} {H : Hp} {s : Shared} {b : B} {g : G} {s0 : S} {k0 : Nat} {y : Str} {c P : Addr} {params : Arguments} {body : Expr} {scope : Scope} {pos : Pos}
end
section
variable {X : Cx} {k0 k kb : Nat} {x y a : Str} {g c P : Addr} {fd : FuncData} {F : Phi → (List O → R Nw) → List O → R Nw} {fb : En} {params : Arguments} {body : Expr} {scope : Scope} {lpos p pos : Pos}
end
end L2.Z
set_option Elab.async false
set_option linter.all false
set_option maxRecDepth 100000
set_option maxHeartbeats 3200000
namespace L2.Z
open PySem PySem.Spec PyProof.Rows
section
variable {X : Cx}
section
variable {pins : List (Addr × Obj)} {σ : St} {H : Hp} {s : Shared}
end
section
variable {i : Nat} {x : Str} {cls : Expr} {u : Value} {us : List Value} {mt : Str → Option Bool} {p p' pos tp : Pos} {j : Nat} {es : List Expr}
end
end
section
variable {X : Cx} {W : WX} {a e : Expr} {fp : Ep} {f : En} {apos cpos pos : Pos}
end
section
variable {sf : Sv} {p : Ep} {f : En} {s s1 s2 : S} {pl : Pl} {t e : T} {ts ts0 : List T} {i : Nat} {c : Str} {mt : Str → Option Bool} {b : Bool} {fl : Fl} {j : Nat}
end
end L2.Z
set_option Elab.async false
set_option linter.all false
set_option maxRecDepth 100000
set_option maxHeartbeats 3200000
namespace L2.Z
open PySem PySem.Spec PyProof.Rows
section
variable {P : Program} {w : World} {K : PySem.W.Frag} {mg : Str → Option Value} {base : Heap} {x qual y : Str} {params : Arguments} {body : List Stmt} {scope : Scope} {dvs : List V} {kws : List (Str × V)} {f c T : Addr} {fd : FuncData}
end
/-- a def's code object, its table, its name -/
abbrev Tb := Addr × Addr × Str
structure BareT (P : Program) (w : World) (K : PySem.W.Frag) (cs : List Tb) (h : Heap) (a : Addr) (ns : List Int) (H : Hp) : Prop where
  at_ : Fz ⟨K, P, w⟩ H a (ns.map V.int)
  ok : HOk P w H h
  one : ∀ b u, H b = some u → (b = a ∧ K.lookup a = none ∧ ∃ o xs, u = .frz o (.lst xs)) ∨ (u = .tbl #[] ∧ ∃ p ∈ cs, p.2.1 = b)
  tab : ∀ p ∈ cs, H p.2.1 = some (.tbl #[])
section
variable {P : Program} {w : World} {K : PySem.W.Frag} {mg mb : Str → Option Value} {k : Nat} {fa a : Addr} {fd : FuncData} {x : Str} {F : Fd} {s1 : Shared} {ns : List Int} {H : Hp} {cs : List Tb}
/-- what the head tells of the tables -/
structure TabsAt (K : PySem.W.Frag) (h : Heap) (cs : List Tb) : Prop where
  empty : ∀ p ∈ cs, h.get? p.2.1 = some { cls := .none, data := .fields #[] }
  out : ∀ p ∈ cs, K.lookup p.2.1 = none
  code : ∀ p ∈ cs, PySem.W.CodeHd h p.1 p.2.1
  isIn : ∀ p ∈ cs, PySem.W.tabIn K p.2.2 = some (p.1, p.2.1)
  nd : (cs.map (·.2.1)).Nodup
end
end L2.Z
set_option Elab.async false
set_option linter.all false
set_option maxRecDepth 100000
set_option maxHeartbeats 3200000
namespace L2.Z
open PySem PySem.Spec PyProof.Rows
end L2.Z
set_option Elab.async false
set_option linter.all false
set_option maxRecDepth 100000
set_option maxHeartbeats 3200000
namespace L2.Z
open PySem PySem.Spec PyProof.Rows
section
variable {X : Cx}
end
end L2.Z
set_option Elab.async false
set_option linter.all false
set_option maxRecDepth 100000
set_option maxHeartbeats 3200000
namespace L2.Z
open PySem PySem.Spec PyProof.Rows
def pick {α : Type} (pm : List Nat) (xs : List α) (d : α) : List α := pm.map fun i => xs.getD i d
/-- the names ks bind the parameters ps, each by its seat among the names -/
structure KwP (fd : FuncData) (ps ks : List Str) (pm : List Nat) : Prop where
  to : ∀ (s : Shared) (ws : List Value), ws.length = ks.length → BindsTo s fd ⟨[], ks.zip ws⟩ (ps.zip (pick pm ws .none))
theorem kwp_of {K : PySem.W.Frag} {x qual : Str} {params : Arguments} {body : List Stmt} {scope : Scope} {f : Addr} {fd : FuncData} {ps ks : List Str} {pm : List Nat} (F : FunD K x qual params body scope [] [] f fd)
    (h : ∀ (kV doc pm' : Value) (an : Option Addr) (cdv ct : Value) (ws : List Value), ws.length = ks.length → bindArgs (PySem.W.fnOf x qual params body scope .none kV doc pm' an cdv ct) ⟨[], ks.zip ws⟩ = pure (ps.zip (pick pm ws .none))) : KwP fd ps ks pm := by
  obtain ⟨oc, od, dV, kV, doc, pm', an, cdv, ct, osl, rfl, lk, hcd, hD, hK⟩ := F.ex
  rcases hD with ⟨_, rfl⟩ | ⟨e, _⟩
  · exact ⟨fun s ws l => .of_eq (h kV doc pm' an cdv ct ws l)⟩
  · exact absurd rfl e
theorem pick_rep {K : Kx} {g : G} {H : Hp} {vs : List V} {ts : List T} (r : RepL K g H vs ts) : ∀ {pm : List Nat}, pm.all (fun i => decide (i < ts.length)) = true → RepL K g H (pick pm vs .non) (pick pm ts .non)
  | [], _ => .nil
  | i :: pm, h => by
    rw [List.all_cons, Bool.and_eq_true, decide_eq_true_eq] at h
    obtain ⟨v, e, q⟩ := r.get (List.getElem?_eq_getElem h.1)
    refine RepL.cons ?_ (pick_rep r h.2)
    dsimp only
    rw [List.getD_eq_getElem?_getD, e, List.getD_eq_getElem?_getD, List.getElem?_eq_getElem h.1]
    exact q
theorem pick_vals {vs : List V} {us : List Value} (r : Vals vs us) : ∀ {pm : List Nat}, pm.all (fun i => decide (i < us.length)) = true → Vals (pick pm vs .non) (pick pm us .none)
  | [], _ => .nil
  | i :: pm, h => by
    rw [List.all_cons, Bool.and_eq_true, decide_eq_true_eq] at h
    have hv : i < vs.length := by rw [r.length]; exact h.1
    refine .cons ?_ (pick_vals r h.2)
    dsimp only
    rw [List.getD_eq_getElem?_getD, List.getElem?_eq_getElem hv, List.getD_eq_getElem?_getD, List.getElem?_eq_getElem h.1]
    exact paired_at r (List.getElem?_eq_getElem hv) (List.getElem?_eq_getElem h.1)
/-- a call by names alone -/
def fCallP (pm : List Nat) (F : Fd) (fk : Ea) : En := fun s => (fk s).bind fun zs s1 => if zs.length = pm.length ∧ pm.all (fun i => decide (i < zs.length)) = true then callF F (pick pm zs .non) s1 else .no
section
variable {X : Cx} {W : WX} {k n : Nat} {f : Addr} {fd : FuncData} {ps ks : List Str} {pm : List Nat} {x : Str} {p pos : Pos} {kws : List Keyword} {fk : Ea} {F : Fd}
theorem fe_callP (D : FnG X.prog X.w X.K X.mg X.base k f fd ps F) (hF : LenF ps.length F) (hgd : X.A.guards = some []) (hr : Room k X.A) (hg : Gl X x) (hm : X.mg x = some (.ref f)) (hk : PySem.W.keepIn X.K (.ref f) = true) (hb : KwP fd ps ks pm)
    (hkw : FK X kws fk) (hall : (backToKw pos (keywordEach kws X.env)).all (·.1.isSome) = true := by rfl) (hks : (backToKw pos (keywordEach kws X.env)).filterMap (·.1) = ks := by rfl)
    (hdb : (x == ("__debug__" : Str)) = false := by decide)
    (hpl : ((backTo pos (starEach [] X.env)).any (·.1) || (backToKw pos (keywordEach kws X.env)).any (·.1.isNone)) = false := by rfl) (hpk : pm.length = ks.length := by rfl) :
    FN X (.Call (.Name x p) [] kws pos) (fCallP pm F fk) := by
  refine ⟨fun pins s σ H Q I ⟨b, g, s0, v, s', m, ev, q⟩ => ?_⟩
  obtain ⟨zs, s2, e2, ev⟩ := bind_ok ev
  split at ev
  · rename_i hz
    refine wpAny_Call_Name_kw (ld_glob I hg hm ?_ hdb)
    refine PySem.W.callWith_KW0 (h₀ := X.base) I.ok.mod.kin hk hall (thn (hkw.run pos pins s σ H (fun vs H2 => ∃ g2, Sim X.kx b g2 s2 σ H2 ∧ Step g H g2 H2 ∧ RepL X.kx g2 H2 vs zs) I ⟨b, g, s0, zs, s2, m, e2, fun g2 H2 Vs m2 t2 r2 => ⟨g2, m2, t2, r2⟩⟩) fun ws w2 hh => ?_) hpl
    obtain ⟨vz, H2, I2, relz, g2, m2, t2, r2⟩ := hh
    refine ⟨I2.kIn, ?_⟩
    rw [hks]
    have lz : ws.length = zs.length := relz.length.symm.trans r2.length
    have l := callF_len hF ev
    refine wpAny_call (codeAny_mono (call_run D hgd hr I2 (hb.to w2 ws (by omega)) (pick_vals relz (by rw [lz]; exact hz.2)) m2 (pick_rep r2 hz.2) l ev (q.step t2)) fun res s3 out => ?_)
    match res, out with
    | .ok (.ret u), out => exact out
  · cases ev
end
section
variable {X : Cx} {pos p2 : Pos} {e : Expr} {f : Ev}
end
section
variable {s s1 : S} {pm : List Nat} {F : Fd} {fk : Ea} {zs : List T}
end
end L2.Z
set_option Elab.async false
set_option linter.all false
set_option maxRecDepth 100000
set_option maxHeartbeats 3200000
namespace L2.Z
open PySem PySem.Spec PyProof.Rows
section
variable {X : Cx} {e : Expr} {te : TE} {pos p : Pos} {n x : Str} {i : Nat}
end
section
variable {s : S} {i : Nat} {n c : Str} {t : T} {mt : Str → Bool}
end
end L2.Z
set_option Elab.async false
set_option linter.all false
set_option maxRecDepth 100000
set_option maxHeartbeats 3200000
namespace L2.Z
open PySem PySem.Spec PyProof.Rows
section
variable {X : Cx} {k : Nat} {ps : List Str} {D : Str} {p pos : Pos} {a : Expr} {fk : Ev} {d n : Nat} {tbl : List (Str × Fd)} {ents : Array DictEntry}
end
end L2.Z
set_option Elab.async false
set_option linter.all false
set_option maxRecDepth 100000
set_option maxHeartbeats 2000000
namespace L2.Z
open PySem PySem.Spec PyProof.Rows
mutual
/-- data, empty dicts among it -/
def okE : T → Bool
  | .non => true
  | .bl _ => true
  | .int _ => true
  | .str _ => true
  | .tup ts => okEs ts
  | .lst ts => okEs ts
  | .dct ks vs => ks.isEmpty && vs.isEmpty
  | .dcn _ _ => false
  | .loc _ => false
  | .pr ts => okEs ts
def okEs : List T → Bool
  | [] => true
  | t :: ts => okE t && okEs ts
end
section
variable {X : Cx} {pins : List (Addr × Obj)} {σ : St} {g : G} {H : Hp} {s : Shared}
/-- a list's object -/
theorem lst_obj (I : Inv X pins σ H s) {a : Addr} {vs : List V} (h : SqL X.K H a vs) : ∃ (its : List Value) (o : Obj) (n : Nat), Vals vs its ∧ s.heap.get? a = some o ∧ o.cls = .type "list" ∧ o.data = .seq its.toArray n := by
  obtain ⟨its, r, ⟨o, n, e, c, _, d⟩, _⟩ := I.list h
  exact ⟨its, o, n, r, e, c, d⟩
theorem tup_obj (I : Inv X pins σ H s) {a : Addr} {vs : List V} (h : SqT X.K H a vs) : ∃ (its : List Value) (o : Obj) (n : Nat), Vals vs its ∧ s.heap.get? a = some o ∧ o.cls = .type "tuple" ∧ o.data = .seq its.toArray n := by
  obtain ⟨its, r, ⟨o, e, c, n, d⟩, _⟩ := I.tuple h
  exact ⟨its, o, n, r, e, c, d⟩
theorem fz_sql {K : Kx} {a : Addr} {vs : List V} (h : Fz K H a vs) : SqL K.K H a vs := by
  rcases h with ⟨o, h1⟩ | h1
  · exact .inl (.inr ⟨o, h1⟩)
  · exact .inr h1
theorem dct_obj {a : Addr} (I : Inv X pins σ H s) (r : Rep X.kx g H (.ref a) (.dct [] [])) : (a == sysModules) = false ∧ ∃ (o : Obj) (ep : Nat), s.heap.get? a = some o ∧ o.cls = .type "dict" ∧ o.data = .dict #[] ep := by
  cases r with
  | dct h1 h2 h3 =>
    rename_i o kvs
    have : kvs = [] := by
      cases kvs with
      | nil => rfl
      | cons p l => cases h2
    subst this
    obtain ⟨lo, e, x, es, ep, us, hd, hs, _, _⟩ := I.frzK h1
    have : es = #[] := Array.eq_empty_of_size_eq_zero hs
    subst this
    exact ⟨lo, o, ep, e, x.1, hd⟩
mutual
theorem rep_rdE (I : Inv X pins σ H s) : ∀ {v : V} {t : T}, Rep X.kx g H v t → ∀ {u : Value}, RelV v u → okE t = true → ∃ as, Reads s.heap u (toD t) as
  | _, _, .non, _, rv, _ => by cases rv; exact ⟨_, .none⟩
  | _, _, .bl b, _, rv, _ => by cases rv; exact ⟨_, .bool b⟩
  | _, _, .int i, _, rv, _ => by obtain ⟨t, rfl⟩ := rv; exact ⟨_, .int i t⟩
  | _, _, .str z, _, rv, _ => by obtain ⟨t, rfl⟩ := rv; exact ⟨_, .str z t⟩
  | _, _, .tup h _ r, _, rv, k => by
    cases rv
    obtain ⟨its, o, n, vv, e, c, d⟩ := tup_obj I h
    obtain ⟨as, q⟩ := repL_rdE I r vv (by simpa [okE] using k)
    exact ⟨_, .tuple e c d q⟩
  | _, _, .lst h _ r, _, rv, k => by
    cases rv
    obtain ⟨its, o, n, vv, e, c, d⟩ := lst_obj I (SqL.of h)
    obtain ⟨as, q⟩ := repL_rdE I r vv (by simpa [okE] using k)
    exact ⟨_, .list e c d q⟩
  | _, _, .lstF h r, _, rv, k => by
    cases rv
    obtain ⟨its, o, n, vv, e, c, d⟩ := lst_obj I (fz_sql h)
    obtain ⟨as, q⟩ := repL_rdE I r vv (by simpa [okE] using k)
    exact ⟨_, .list e c d q⟩
  | _, .dct ks vs, .dct h1 h2 h3, _, rv, k => by
    cases rv
    have k : (ks.isEmpty && vs.isEmpty) = true := k
    rw [Bool.and_eq_true, List.isEmpty_iff, List.isEmpty_iff] at k
    obtain ⟨rfl, rfl⟩ := k
    obtain ⟨_, o, ep, e, c, d⟩ := dct_obj I (.dct h1 h2 h3)
    exact ⟨_, .dict e c d .nil .nil⟩
  | _, _, .dcn _ _ _ _, _, _, k => by cases k
  | _, _, .loc _, _, _, k => by cases k
  | _, _, .pr h r, _, rv, k => by
    cases rv
    obtain ⟨its, o, n, vv, e, c, d⟩ := tup_obj I h
    obtain ⟨as, q⟩ := repL_rdE I r vv (by simpa [okE] using k)
    exact ⟨_, .tuple e c d q⟩
theorem repL_rdE (I : Inv X pins σ H s) : ∀ {vs : List V} {ts : List T}, RepL X.kx g H vs ts → ∀ {us : List Value}, Vals vs us → okEs ts = true → ∃ as, ReadsAll s.heap us (toDs ts) as
  | _, _, .nil, _, rv, _ => by cases rv; exact ⟨_, .nil⟩
  | _, _, .cons a b, _, rv, k => by
    cases rv with
    | cons r1 r2 =>
      rw [okEs, Bool.and_eq_true] at k
      obtain ⟨as, q1⟩ := rep_rdE I a r1 k.1
      obtain ⟨bs, q2⟩ := repL_rdE I b r2 k.2
      exact ⟨_, .cons q1 q2⟩
end
theorem deepest {h : Heap} {n m k : Nat} {bs cs : List Addr} (p : ReadAtMost h n bs) (q : ReadAtMost h m cs) (hn : n ≤ k) (hm : m ≤ k) : ReadAtMost h k (bs ++ cs) := (p.mono hn).append (q.mono hm)
theorem leafE {u : Value} {d : PyData} {as : List Addr} (r : Reads s.heap u d as) (n : d.hasDict = false) (k : d.showable = true) (z : d.shown.length ≤ sizeLine) : ∃ bs, ReadAtMost s.heap d.depth bs ∧ ReprK X.prog X.w bs s.heap d.depth u d.shown :=
  ReprK.of_reads r k (PyData.noDict_hsm n) z
theorem lst_shE {a : Addr} {its : List Value} {o : Obj} {n : Nat} {ts : List T} {as bs : List Addr} (rd : Reads s.heap (.ref a) (toD (.lst ts)) as) (hb : ReadAtMost s.heap (PyData.depthAll (toDs ts)) bs) (e : s.heap.get? a = some o) (c : o.cls = .type "list") (d : o.data = .seq its.toArray n)
    (hk : ReprAllK X.prog X.w bs s.heap (PyData.depthAll (toDs ts)) its (PyData.shownAll (toDs ts))) (hm : ReadAtMost s.heap (toD (.lst ts)).depth (a :: bs)) : ∃ cs, ReadAtMost s.heap (toD (.lst ts)).depth cs ∧ ReprK X.prog X.w cs s.heap (toD (.lst ts)).depth (.ref a) (toD (.lst ts)).shown := by
  have out := not_mem_of_deeper rd (by simp only [toD, PyData.depth]; omega) hb
  refine ⟨_, hm, ?_⟩
  simp only [toD, PyData.depth, PyData.shown]
  cases its with
  | nil =>
    have q : PyData.shownAll (toDs ts) = [] := by
      have := hk.length_eq
      exact List.eq_nil_of_length_eq_zero this
    rw [q, listText_nil]
    exact ReprK.listEmpty e c d
  | cons x l => exact ReprK.list e c d out (by simpa using hk.length_eq) fun i y q => hk.item i y (by simpa using q)
mutual
theorem rep_shE (I : Inv X pins σ H s) : ∀ {v : V} {t : T}, Rep X.kx g H v t → ∀ {u : Value}, RelV v u → okE t = true → (toD t).showable = true → (toD t).shown.length ≤ sizeLine → ∃ bs, ReadAtMost s.heap (toD t).depth bs ∧ ReprK X.prog X.w bs s.heap (toD t).depth u (toD t).shown
  | _, _, .non, _, rv, _, k, z => by cases rv; exact leafE .none rfl k z
  | _, _, .bl b, _, rv, _, k, z => by cases rv; exact leafE (.bool b) rfl k z
  | _, _, .int i, _, rv, _, k, z => by obtain ⟨t, rfl⟩ := rv; exact leafE (.int i t) rfl k z
  | _, _, .str y, _, rv, _, k, z => by obtain ⟨t, rfl⟩ := rv; exact leafE (.str y t) rfl k z
  | _, .tup ts, .tup h nd r, _, rv, w, k, z => by
    cases rv
    obtain ⟨as, rd⟩ := rep_rdE I (.tup h nd r) rfl w
    obtain ⟨its, o, n, vv, e, c, d⟩ := tup_obj I h
    have z' : (tupleText (PyData.shownAll (toDs ts))).length ≤ sizeLine := by simpa only [toD, PyData.shown] using z
    obtain ⟨bs, hb, hk⟩ := repL_shE I r vv (by simpa [okE] using w) (by simpa [toD, PyData.showable] using k) fun y m => Nat.le_trans (tupleText_mem_le m) z'
    have out := not_mem_of_deeper rd (by simp only [toD, PyData.depth]; omega) hb
    refine ⟨_, ReadAtMost.cons rd (by simp only [toD, PyData.depth]; omega) hb, ?_⟩
    simp only [toD, PyData.depth, PyData.shown]
    exact ReprK.tuple e c d out hk
  | _, .lst ts, .lst h1 h2 r, _, rv, w, k, z => by
    cases rv
    obtain ⟨as, rd⟩ := rep_rdE I (.lst h1 h2 r) rfl w
    obtain ⟨its, o, n, vv, e, c, d⟩ := lst_obj I (SqL.of h1)
    have z' : (listText (PyData.shownAll (toDs ts))).length ≤ sizeLine := by simpa only [toD, PyData.shown] using z
    obtain ⟨bs, hb, hk⟩ := repL_shE I r vv (by simpa [okE] using w) (by simpa [toD, PyData.showable] using k) fun y m => Nat.le_trans (listText_mem_le m) z'
    exact lst_shE rd hb e c d hk (ReadAtMost.cons rd (by simp only [toD, PyData.depth]; omega) hb)
  | _, .lst ts, .lstF h1 r, _, rv, w, k, z => by
    cases rv
    obtain ⟨as, rd⟩ := rep_rdE I (.lstF h1 r) rfl w
    obtain ⟨its, o, n, vv, e, c, d⟩ := lst_obj I (fz_sql h1)
    have z' : (listText (PyData.shownAll (toDs ts))).length ≤ sizeLine := by simpa only [toD, PyData.shown] using z
    obtain ⟨bs, hb, hk⟩ := repL_shE I r vv (by simpa [okE] using w) (by simpa [toD, PyData.showable] using k) fun y m => Nat.le_trans (listText_mem_le m) z'
    exact lst_shE rd hb e c d hk (ReadAtMost.cons rd (by simp only [toD, PyData.depth]; omega) hb)
  | _, .dct ks vs, .dct h1 h2 h3, _, rv, w, k, z => by
    cases rv
    have w : (ks.isEmpty && vs.isEmpty) = true := w
    rw [Bool.and_eq_true, List.isEmpty_iff, List.isEmpty_iff] at w
    obtain ⟨rfl, rfl⟩ := w
    obtain ⟨lo, o, ep, e, c, d⟩ := dct_obj I (.dct h1 h2 h3)
    refine ⟨[_], ReadAtMost.cons (d := .dict []) (.dict e c d .nil .nil) (Nat.le_refl _) (fun _ m => nomatch m), ?_⟩
    exact ReprK.dict e c d lo (by simp) .nil
  | _, _, .dcn _ _ _ _, _, _, k, _, _ => by cases k
  | _, _, .loc _, _, _, k, _, _ => by cases k
  | _, .pr ts, .pr h r, _, rv, w, k, z => by
    cases rv
    obtain ⟨as, rd⟩ := rep_rdE I (.pr h r) rfl w
    obtain ⟨its, o, n, vv, e, c, d⟩ := tup_obj I h
    have z' : (tupleText (PyData.shownAll (toDs ts))).length ≤ sizeLine := by simpa only [toD, PyData.shown] using z
    obtain ⟨bs, hb, hk⟩ := repL_shE I r vv (by simpa [okE] using w) (by simpa [toD, PyData.showable] using k) fun y m => Nat.le_trans (tupleText_mem_le m) z'
    have out := not_mem_of_deeper rd (by simp only [toD, PyData.depth]; omega) hb
    refine ⟨_, ReadAtMost.cons rd (by simp only [toD, PyData.depth]; omega) hb, ?_⟩
    simp only [toD, PyData.depth, PyData.shown]
    exact ReprK.tuple e c d out hk
theorem repL_shE (I : Inv X pins σ H s) : ∀ {vs : List V} {ts : List T}, RepL X.kx g H vs ts → ∀ {us : List Value}, Vals vs us → okEs ts = true → PyData.showableAll (toDs ts) = true → (∀ y ∈ PyData.shownAll (toDs ts), y.length ≤ sizeLine) → ∃ bs, ReadAtMost s.heap (PyData.depthAll (toDs ts)) bs ∧ ReprAllK X.prog X.w bs s.heap (PyData.depthAll (toDs ts)) us (PyData.shownAll (toDs ts))
  | _, _, .nil, _, rv, _, _, _ => by
    cases rv
    exact ⟨[], fun b m => (nomatch m), ReprAllK.nil⟩
  | _, t :: ts, .cons a b, _, rv, w, k, z => by
    cases rv with
    | cons r1 r2 =>
      rw [okEs, Bool.and_eq_true] at w
      have k : (toD t).showable = true ∧ PyData.showableAll (toDs ts) = true := by simpa [toDs, PyData.showableAll] using k
      have z0 : ∀ y ∈ (toD t).shown :: PyData.shownAll (toDs ts), y.length ≤ sizeLine := z
      obtain ⟨b1, h1, q1⟩ := rep_shE I a r1 w.1 k.1 (z0 _ (.head _))
      obtain ⟨b2, h2, q2⟩ := repL_shE I b r2 w.2 k.2 fun y m => z0 y (.tail _ m)
      have l1 : (toD t).depth ≤ PyData.depthAll (toDs (t :: ts)) := Nat.le_max_left _ _
      have l2 : PyData.depthAll (toDs ts) ≤ PyData.depthAll (toDs (t :: ts)) := Nat.le_max_right _ _
      exact ⟨b1 ++ b2, deepest h1 h2 l1 l2, .cons ((q1.more fun y m => List.mem_append.mpr (.inl m)).level_le l1) (q2.more_le (fun y m => List.mem_append.mpr (.inr m)) l2)⟩
end
theorem top_lst {a : Addr} {x : T} {ts : List T} {Q : VK} {vs : List V} (hg : X.A.guards = some []) (hu : X.A.units + 103 < cLine) (I : Inv X pins σ H s) (r : Rep X.kx g H (.ref a) (.lst (x :: ts))) (h : SqL X.K H a vs) (rl : RepL X.kx g H vs (x :: ts))
    (k : okE (.lst (x :: ts)) = true ∧ (toD (.lst (x :: ts))).showable = true ∧ (toD (.lst (x :: ts))).depth ≤ 100 ∧ (toD (.lst (x :: ts))).shown.length ≤ 16777216) (q : Q (.str (toD (.lst (x :: ts))).shown) H) : wpAny (model X.prog X.w) X.A (call (.builtin "repr") [.ref a]) (EP X pins σ Q) X.xe s := by
  obtain ⟨c1, c2, c3, c4⟩ := k
  have z' : (listText (PyData.shownAll (toDs (x :: ts)))).length ≤ sizeLine := by simpa only [toD, PyData.shown] using fit_of c4
  obtain ⟨as, rd⟩ := rep_rdE I r rfl c1
  obtain ⟨its, o, n, vv, e, c, d⟩ := lst_obj I h
  obtain ⟨bs, hb, hk⟩ := repL_shE I rl vv (by simpa [okE] using c1) (by simpa [toD, PyData.showable] using c2) fun y m => Nat.le_trans (listText_mem_le m) z'
  have out := not_mem_of_deeper rd (by simp only [toD, PyData.depth]; omega) hb
  have dp : PyData.depthAll (toDs (x :: ts)) + 1 ≤ 100 := c3
  cases its with
  | nil =>
    have := hk.length_eq
    cases this
  | cons y l =>
    refine call_repr_slot (T := "list") (by omega) ⟨o, e, c⟩ F.slot_list_repr.toG ?_
    refine call_list_reprK e c d out (by simpa using hk.length_eq) (fun i y q => hk.item i y (by simpa using q)) (A := X.A.in1) hg (fun b _ => Clear.nil b) (by show X.A.units + 1 + _ < cLine; omega) (fun _ _ z => z) (fun h' u tk kp => ⟨_, _, rfl, ?_⟩) z'
    exact ⟨.str _, H, I.kept (t' := tk) kp, ⟨_, rfl⟩, q⟩
theorem top_tup {a : Addr} {ts : List T} {Q : VK} {vs : List V} (hg : X.A.guards = some []) (hu : X.A.units + 103 < cLine) (I : Inv X pins σ H s) (r : Rep X.kx g H (.ref a) (.tup ts)) (h : SqT X.K H a vs) (rl : RepL X.kx g H vs ts)
    (k : okE (.tup ts) = true ∧ (toD (.tup ts)).showable = true ∧ (toD (.tup ts)).depth ≤ 100 ∧ (toD (.tup ts)).shown.length ≤ 16777216) (q : Q (.str (toD (.tup ts)).shown) H) : wpAny (model X.prog X.w) X.A (call (.builtin "repr") [.ref a]) (EP X pins σ Q) X.xe s := by
  obtain ⟨c1, c2, c3, c4⟩ := k
  have z' : (tupleText (PyData.shownAll (toDs ts))).length ≤ sizeLine := by simpa only [toD, PyData.shown] using fit_of c4
  obtain ⟨as, rd⟩ := rep_rdE I r rfl c1
  obtain ⟨its, o, n, vv, e, c, d⟩ := tup_obj I h
  obtain ⟨bs, hb, hk⟩ := repL_shE I rl vv (by simpa [okE] using c1) (by simpa [toD, PyData.showable] using c2) fun y m => Nat.le_trans (tupleText_mem_le m) z'
  have out := not_mem_of_deeper rd (by simp only [toD, PyData.depth]; omega) hb
  have dp : PyData.depthAll (toDs ts) + 1 ≤ 100 := c3
  refine call_repr_slot (T := "tuple") (by omega) ⟨o, e, c⟩ F.slot_tuple_repr ?_
  refine call_tuple_reprK e c d out hk (A := X.A.in1) hg (fun b _ => Clear.nil b) (by show X.A.units + 1 + _ < cLine; omega) (fun _ _ z => z) (fun h' u tk kp => ⟨_, _, rfl, ?_⟩) z'
  exact ⟨.str _, H, I.kept (t' := tk) kp, ⟨_, rfl⟩, q⟩
end
end L2.Z
set_option Elab.async false
set_option linter.all false
set_option maxRecDepth 100000
set_option maxHeartbeats 3200000
namespace L2.Z
open PySem PySem.Spec PyProof.Rows
/-- a walk over a list (c), or a tuple, i things given out -/
def ItS (c : Bool) (h : Heap) (it l : Addr) (i : Nat) (xs : Array Value) : Prop := match c with
  | true => h.IsListIter it l i ∧ h.IsList l xs
  | false => h.IsTupleIter it l i ∧ h.IsTuple l xs
theorem ItS.at {c : Bool} {h h' : Heap} {it l : Addr} {i : Nat} {xs : Array Value} (g : ItS c h it l i xs) (k1 : ∀ o, h.get? it = some o → h'.get? it = some o) (k2 : ∀ o, h.get? l = some o → h'.get? l = some o) : ItS c h' it l i xs := by
  cases c with
  | true => exact ⟨g.1.at k1, g.2.at k2⟩
  | false => exact ⟨g.1.at k1, g.2.at k2⟩
theorem ItS.lt {c : Bool} {h : Heap} {it l : Addr} {i : Nat} {xs : Array Value} (g : ItS c h it l i xs) : it < h.objs.size ∧ l < h.objs.size := by
  cases c with
  | true =>
    obtain ⟨⟨o, e, _⟩, o2, e2, _⟩ := g
    exact ⟨Heap.lt_size e, Heap.lt_size e2⟩
  | false =>
    obtain ⟨⟨o, e, _⟩, o2, e2, _⟩ := g
    exact ⟨Heap.lt_size e, Heap.lt_size e2⟩
section
variable {prog : Program} {w : World} {A : Around} {s : Shared} {z TI TO i1 i2 l1 l2 : Addr} {xs ys : Array Value} {cl : Bool}
/-- a zip of two tuples, i pairs given out, while the list at S is filled -/
def ZL (cl : Bool) (z TI TO i1 i2 l1 l2 S : Addr) (xs ys : Array Value) (i : Nat) (h : Heap) : Prop :=
  IsTupOf2 h TI (.ref i1) (.ref i2) ∧ ItS cl h i1 l1 i xs ∧ ItS cl h i2 l2 i ys ∧
  ((IsZip h z TI TO .none ∧ ∃ a b, IsTupOf2 h TO a b) ∨ ∃ T f oT, IsZipHeld h z TI TO T f ∧ h.get? T = some oT ∧ T ≠ z ∧ T ≠ i1 ∧ T ≠ i2 ∧ T ≠ S)
/-- .. what S is apart from -/
structure ZOff (z TI TO i1 i2 l1 l2 S : Addr) : Prop where
  sep : ZipSep2 z TI TO i1 i2 [i1, l1] [i2, l2]
  n1 : l1 ≠ i1
  n2 : l2 ≠ i2
  z : S ≠ z
  TI : S ≠ TI
  TO : S ≠ TO
  i1 : S ≠ i1
  i2 : S ≠ i2
  l1 : S ≠ l1
  l2 : S ≠ l2
/-- new pairs, at rising addresses from B on -/
structure ZG (xs ys : Array Value) (B : Addr) (h : Heap) (as : List Addr) : Prop where
  up : as.Pairwise (· < ·)
  from_ : ∀ a ∈ as, B ≤ a
  at_ : ∀ (j : Nat) (a : Addr), as[j]? = some a → ∃ x y, xs[j]? = some x ∧ ys[j]? = some y ∧ h.get? a = some { cls := .type "tuple", data := .seq #[x, y] }
variable {S : Addr}
theorem ZL.frame (O : ZOff z TI TO i1 i2 l1 l2 S) {i : Nat} {h h' : Heap} (g : ZL cl z TI TO i1 i2 l1 l2 S xs ys i h) (k : ∀ b o, b ≠ S → h.get? b = some o → h'.get? b = some o) : ZL cl z TI TO i1 i2 l1 l2 S xs ys i h' := by
  obtain ⟨gTI, g1, g2, gz⟩ := g
  refine ⟨k _ _ O.TI.symm gTI, g1.at (fun o => k _ o O.i1.symm) (fun o => k _ o O.l1.symm), g2.at (fun o => k _ o O.i2.symm) (fun o => k _ o O.l2.symm), ?_⟩
  rcases gz with ⟨gz, a, b, gO⟩ | ⟨T, f, oT, gz, gT, r1, r2, r3, r4⟩
  · exact .inl ⟨k _ _ O.z.symm gz, a, b, k _ _ O.TO.symm gO⟩
  · exact .inr ⟨T, f, oT, k _ _ O.z.symm gz, k _ _ r4 gT, r1, r2, r3, r4⟩
end
section
variable {X : Cx} {pins : List (Addr × Obj)} {σ : St} {H : Hp} {s : Shared}
end
/-- a list (c), or a tuple, that stands in the heap -/
def IsS (c : Bool) (h : Heap) (l : Addr) (xs : Array Value) : Prop := match c with
  | true => h.IsList l xs
  | false => h.IsTuple l xs
theorem IsS.keep {c : Bool} {h h' : Heap} {l : Addr} {xs : Array Value} (g : IsS c h l xs) (k : ∀ o, h.get? l = some o → h'.get? l = some o) : IsS c h' l xs := by
  cases c with
  | true => exact Heap.IsList.at g k
  | false => exact Heap.IsTuple.at g k
theorem IsS.low {c : Bool} {h : Heap} {l : Addr} {xs : Array Value} (g : IsS c h l xs) : l < h.objs.size := by
  cases c with
  | true => obtain ⟨o, e, _⟩ := g; exact Heap.lt_size e
  | false => obtain ⟨o, e, _⟩ := g; exact Heap.lt_size e
def tS (c : Bool) (ts : List T) : T := match c with
  | true => .lst ts
  | false => .tup ts
section
variable {X : Cx} {e e2 : Expr} {fa : Ea} {p p2 pos pos2 : Pos}
end
section
variable {fa : Ea} {s : S}
end
end L2.Z
set_option Elab.async false
set_option linter.all false
set_option maxRecDepth 100000
set_option maxHeartbeats 3200000
namespace L2.Z
open PySem PySem.Spec PyProof.Rows
def T.isPr : T → Bool
  | .pr _ => true
  | _ => false
def shows (t : T) : Prop := t.isPr = false ∧ okE t = true ∧ (toD t).showable = true ∧ (toD t).depth ≤ 100 ∧ (toD t).shown.length ≤ 16777216
instance (t : T) : Decidable (shows t) := by unfold shows; infer_instance
def clReprV (xs : List T) : Option T := match xs with
  | [t] => if shows t then some (.str (toD t).shown) else none
  | _ => none
section
variable {X : Cx} {pins : List (Addr × Obj)} {σ : St} {g : G} {H : Hp} {s : Shared}
theorem top_any {t : T} {v : V} {u : Value} {Q : VK} (hg : X.A.guards = some []) (hu : X.A.units + 103 < cLine) (I : Inv X pins σ H s) (r : Rep X.kx g H v t) (rv : RelV v u) (c : shows t) (q : Q (.str (toD t).shown) H) : wpAny (model X.prog X.w) X.A (call (.builtin "repr") [u]) (EP X pins σ Q) X.xe s := by
  obtain ⟨np, c1, c2, c3, c4⟩ := c
  cases r with
  | non =>
    cases rv
    exact PySem.P.repr_of_none ⟨.str _, H, I.tok _, ⟨_, rfl⟩, q⟩
  | bl b =>
    cases rv
    exact PySem.P.repr_of_bool ⟨.str _, H, I.tok _, ⟨_, rfl⟩, q⟩
  | int i =>
    obtain ⟨t, rfl⟩ := rv
    have : i.natAbs.log2 < 1920 := by simpa [toD, PyData.showable] using c2
    exact PySem.P.repr_of_int this ⟨.str _, H, I.tok _, ⟨_, rfl⟩, q⟩
  | str z =>
    obtain ⟨t, rfl⟩ := rv
    exact PySem.P.repr_of_str ⟨.str _, H, I.tok _, ⟨_, rfl⟩, q⟩ (fit_of c4)
  | tup h1 h2 rl => cases rv; exact top_tup hg hu I (.tup h1 h2 rl) h1 rl ⟨c1, c2, c3, c4⟩ q
  | pr _ _ => cases np
  | lst h1 h2 rl =>
    cases rv
    rename_i a vs ts
    cases ts with
    | nil => exact cz_repr_at hg hu I (.lst h1 h2 rl) ⟨rfl, c2, c3, c4⟩ q
    | cons x ts => exact top_lst hg hu I (.lst h1 h2 rl) (SqL.of h1) rl ⟨c1, c2, c3, c4⟩ q
  | lstF h1 rl =>
    cases rv
    rename_i a vs ts
    cases ts with
    | nil => exact cz_repr_at hg hu I (.lstF h1 rl) ⟨rfl, c2, c3, c4⟩ q
    | cons x ts => exact top_lst hg hu I (.lstF h1 rl) (fz_sql h1) rl ⟨c1, c2, c3, c4⟩ q
  | dct h1 h2 h3 =>
    cases rv
    rename_i a o kvs ks ts
    have w : (ks.isEmpty && ts.isEmpty) = true := c1
    rw [Bool.and_eq_true, List.isEmpty_iff, List.isEmpty_iff] at w
    obtain ⟨rfl, rfl⟩ := w
    obtain ⟨lo, o, ep, e, c, d⟩ := dct_obj I (.dct h1 h2 h3)
    refine call_repr_slot (T := "dict") (by omega) ⟨o, e, c⟩ F.slot_dict_repr ?_
    refine call_dict_reprK (as := []) (d := 0) (ps := []) e c d lo (by simp) .nil (A := X.A.in1) hg (fun b _ => Clear.nil b) (by show X.A.units + 1 + _ < cLine; omega) (fun _ _ z => z) (fun h' u tk kp => ⟨_, _, rfl, ?_⟩) (fit_of c4)
    exact ⟨.str _, H, I.kept (t' := tk) kp, ⟨_, rfl⟩, q⟩
  | dcn _ _ _ _ => cases c1
  | loc _ => cases c1
end
theorem cz_reprV {X : Cx} (hg : X.A.guards = some []) (hu : X.A.units + 103 < cLine) : CallR X (.builtin "repr") (rCl X.kx clReprV) := by
  intro pins s σ H xs us Q I rs ⟨g, ts, z, mk, r, e, k⟩
  unfold clReprV at e
  split at e
  · split at e
    · rename_i t c
      cases e
      obtain ⟨v, rfl, r1⟩ := repL_one r
      obtain ⟨u, rfl, ru⟩ := vals1 rs
      exact top_any hg hu I r1 ru c (k _ _ (Ext.refl H) (.str _))
    · cases e
  · cases e
section
variable {K : Kx} {b : B} {g : G} {s : S} {σ : St} {H : Hp}
end
section
variable {X : Cx} {e : Expr} {f : Ev} {pos : Pos}
end
section
variable {f : Ev} {fn : En} {s : S}
end
end L2.Z
set_option Elab.async false
set_option linter.all false
set_option maxRecDepth 100000
set_option maxHeartbeats 3200000
namespace L2.Z
open PySem PySem.Spec PyProof.Rows
/-- one parameter, which the body doesn't name; else captured names and globals -/
structure LamP (sc scope : Scope) (p : Str) : Prop where
  kind : scope.kind = .function
  co : scope.isCoroutine = false
  gen : scope.isGenerator = false
  own : ∀ y ∈ scope.names, y.2 ≠ .cell ∧ (y.2 = .local → y.1 = p)
  prm : scope.names.lookup p = some .local
  free : ∀ y ∈ scope.names, y.2 = .free → sc.names.lookup y.1 = some .cell ∨ sc.names.lookup y.1 = some .free
  nil : scope.names.lookup ("" : Str) = none
theorem LamP.has {X : Cx} {scope : Scope} {p : Str} (L : LamP X.env.scope scope p) (ok : X.Ok) : ∀ y ∈ scope.names, y.2 = .free → ∃ c, X.env.cells.lookup y.1 = some c := fun y hy e => by
  rcases L.free y hy e with k | k
  · exact ok.has _ (.inl k)
  · exact ok.has _ (.inr k)
section
variable {X : Cx} {pins : List (Addr × Obj)} {σ : L2.St} {H HZ : Hp} {s s1 : Shared}
end
section
variable {X : Cx} {pins : List (Addr × Obj)} {σ : St} {H : Hp} {s : Shared} {f c' : Addr} {pm ctv doc : Value} {TT : Addr} {prm : Str} {pv : Value} {N' : List Str} {params : Arguments} {body : Expr} {scope : Scope} {N : List Str} {qg : Str} {sg : Scope} {g : Addr} {cdg : Value} {E0 : XK} {pn : List (Addr × Obj)} {xe : Value → Shared → Prop} {W : WX} {a : Str} {p1 p2 : Pos} {k : Nat} {fb : En} {env : List Slot}
end
section
variable {X : Cx} {pins : List (Addr × Obj)} {σ : St} {H : Hp} {s : Shared} {b : B} {g : G} {s0 : S} {k0 : Nat} {y : Str} {c P : Addr} {params : Arguments} {body : Expr} {scope : Scope} {pos : Pos}
end
section
variable {X : Cx} {k0 k kb : Nat} {x y a : Str} {g c P : Addr} {fd : FuncData} {F : Phi → (List O → R Nw) → List O → R Nw} {fb : En} {params : Arguments} {body : Expr} {scope : Scope} {lpos p pos : Pos}
end
end L2.Z
set_option Elab.async false
set_option linter.all false
set_option maxRecDepth 100000
set_option maxHeartbeats 3200000
namespace L2.Z
open PySem PySem.Spec PyProof.Rows
end L2.Z
set_option Elab.async false
set_option linter.all false
set_option maxRecDepth 100000
set_option maxHeartbeats 3200000
namespace L2.Z
open PySem PySem.Spec PyProof.Rows
end L2.Z
set_option Elab.async false
set_option linter.all false
set_option maxRecDepth 100000
set_option maxHeartbeats 3200000
namespace L2.Z
open PySem PySem.Spec PyProof.Rows
section
variable {P : Program} {w : World} {A : Around} {E : Value → Shared → Prop} {s : Shared}
end
section
variable {X : Cx}
end
section
variable {X : Cx} {pos p pos2 p2 : Pos} {e : Expr} {fa : Ea}
end
section
variable {X : Cx} {pos p pos2 p2 : Pos} {e : Expr} {f : Ev}
end
end L2.Z
set_option Elab.async false
set_option linter.all false
set_option maxRecDepth 100000
set_option maxHeartbeats 3200000
namespace L2.Z
open PySem PySem.Spec PyProof.Rows
section
variable {X : Cx} {W : WX} {a c e tg : Expr} {f : En} {h : Ev} {pos : Pos} {us : List Nat} {pt : Pat}
end
section
variable {f : En} {h : Ev} {pt : Pat} {s s1 s2 : S} {e t y v : T}
end
end L2.Z
set_option Elab.async false
set_option linter.all false
set_option maxRecDepth 100000
set_option maxHeartbeats 3200000
namespace L2.Z
open PySem PySem.Spec PyProof.Rows
section
variable {X : Cx}
end
end L2.Z
set_option Elab.async false
set_option linter.all false
set_option maxRecDepth 100000
set_option maxHeartbeats 3200000
namespace L2.Z
open PySem PySem.Spec PyProof.Rows
def fnRel (K : PySem.W.Frag) (z : Str) (u : V) : Prop := ∃ a, u = .ref a ∧ PySem.W.nsIn K mainGlobals z = some (some (.ref a))
/-- names of defs, in a row -/
structure FnNs (X : Cx) (es : List Expr) (zs : List Str) (us : List V) : Prop where
  pa : PA X es (fun _ H Q => Q us H)
  len : us.length = zs.length
  rel : ∀ (k : Nat) (z : Str) (u : V), zs[k]? = some z → us[k]? = some u → fnRel X.K z u
section
variable {X : Cx} {es : List Expr} {zs : List Str} {us : List V} {z x : Str} {a : Addr} {p tp pos : Pos} {i k : Nat} {sf : Sv} {body : List Stmt}
end
/-- what is known of such a def -/
structure FnV (P : Program) (w : World) (K : PySem.W.Frag) (mg : Str → Option Value) (base : Heap) (k : Nat) (z : Str) (F : Fd) : Prop where
  ex : ∃ (f : Addr) (fd : FuncData) (ps : List Str), PySem.W.nsIn K mainGlobals z = some (some (.ref f)) ∧ FnGX P w K mg base k f fd ps F ∧ LenFX ps.length F ∧ PySem.W.keepIn K (.ref f) = true ∧ Binds K fd ps []
section
variable {X : Cx} {W : WX} {x : Str} {p pos : Pos} {e : Expr} {es : List Expr} {fa : Ea} {i k : Nat} {tbl : List (Str × Fd)}
end
section
variable {i : Nat} {f : Sv} {z : Str} {r : List Str} {s s2 : S} {tbl : List (Str × Fd)} {F : Fd} {fa : Ea}
end
end L2.Z
set_option Elab.async false
set_option linter.all false
set_option maxRecDepth 100000
set_option maxHeartbeats 2000000
namespace L2.Z
open PySem PySem.Spec PyProof.Rows
section
variable {X : Cx} {pos : Pos} {a c : Expr} {fp : Ep} {h : Ev}
end
end L2.Z
set_option Elab.async false
set_option linter.all false
set_option maxRecDepth 100000
set_option maxHeartbeats 2000000
namespace L2.Z
open PySem PySem.Spec PyProof.Rows
section
variable {X : Cx} {o c : Expr} {f h : Ev} {apos cpos : Pos}
end
section
variable {X : Cx} {e : Expr} {ta : TA} {fa : Ea} {p pos tpos : Pos} {elts : List Expr} {kk : Nat}
end
section
variable {X : Cx} {e e2 : Expr} {ta : TA} {fa : Ea} {p pos tpos : Pos} {elts : List Expr} {kk : Nat}
end
section
variable {fa : Ea} {f h : Ev} {s : S}
end
end L2.Z
set_option Elab.async false
set_option linter.all false
set_option maxRecDepth 100000
set_option maxHeartbeats 2000000
namespace L2.Z
open PySem PySem.Spec PyProof.Rows
section
variable {X : Cx} {o e : Expr} {apos cpos pos : Pos} {fp : Ep} {f h : Ev}
end
section
variable {s : S} {fp : Ep} {h : Ev}
end
end L2.Z
set_option Elab.async false
set_option linter.all false
set_option maxRecDepth 100000
set_option maxHeartbeats 2000000
namespace L2.Z
open PySem PySem.Spec PyProof.Rows
section
variable {X : Cx} {e o : Expr} {f h : Ev} {apos cpos : Pos}
end
section
variable {s : S} {f h : Ev}
end
end L2.Z
set_option Elab.async false
set_option linter.all false
set_option maxRecDepth 100000
set_option maxHeartbeats 2000000
namespace L2.Z
open PySem PySem.Spec PyProof.Rows
section
variable {X : Cx} {k : Nat} {f : Addr} {fd : FuncData} {ps : List Str} {x : Str} {p pos : Pos} {e : Expr} {es : List Expr} {fr : Ears} {F : Fd}
end
section
variable {F : Fd} {fr : Ears} {s : S}
end
end L2.Z
set_option Elab.async false
set_option linter.all false
set_option maxRecDepth 100000
set_option maxHeartbeats 2000000
namespace L2.Z
open PySem PySem.Spec PyProof.Rows
section
variable {X : Cx} {i o : Expr} {f h : Ev} {pos : Pos}
end
section
variable {s : S} {f h : Ev} {n : Bool}
end
end L2.Z
set_option Elab.async false
set_option linter.all false
set_option maxRecDepth 100000
set_option maxHeartbeats 3200000
namespace L2.Z
open PySem PySem.Spec PyProof.Rows
mutual
/-- whole numbers, texts, tuples of such -/
def pureD : PyData → Bool
  | .int _ => true
  | .str _ => true
  | .tuple xs => pureA xs
  | _ => false
def pureA : List PyData → Bool
  | [] => true
  | x :: xs => pureD x && pureA xs
end
theorem pureA_cons {x : PyData} {xs : List PyData} (h : pureA (x :: xs) = true) : pureD x = true ∧ pureA xs = true := by
  rw [pureA, Bool.and_eq_true] at h
  exact h
mutual
theorem pureD_plain : ∀ (x : PyData), pureD x = true → x.plain = true
  | .int _, _ => by simp [PyData.plain]
  | .str _, _ => by simp [PyData.plain]
  | .tuple xs, h => by rw [PyData.plain]; exact pureA_plain xs (by simpa [pureD] using h)
  | .none, h => by simp [pureD] at h
  | .bool _, h => by simp [pureD] at h
  | .list _, h => by simp [pureD] at h
  | .dict _, h => by simp [pureD] at h
theorem pureA_plain : ∀ (xs : List PyData), pureA xs = true → PyData.plainAll xs = true
  | [], _ => by simp [PyData.plainAll]
  | x :: xs, h => by rw [PyData.plainAll, pureD_plain x (pureA_cons h).1, pureA_plain xs (pureA_cons h).2]; rfl
end
mutual
theorem eqv_pure : ∀ (x y : PyData), pureD x = true → pureD y = true → PyData.eqv x y = true → x = y
  | .int a, y, _, hy, e => by
    cases y with
    | int b => simpa [PyData.eqv] using e
    | str b => simp [PyData.eqv] at e
    | tuple b => simp [PyData.eqv] at e
    | _ => simp [pureD] at hy
  | .str a, y, _, hy, e => by
    cases y with
    | str b => simpa [PyData.eqv] using e
    | int b => simp [PyData.eqv] at e
    | tuple b => simp [PyData.eqv] at e
    | _ => simp [pureD] at hy
  | .tuple xs, y, hx, hy, e => by
    cases y with
    | tuple ys => rw [eqvAll_pure xs ys (by simpa [pureD] using hx) (by simpa [pureD] using hy) (by simpa [PyData.eqv] using e)]
    | int b => simp [PyData.eqv] at e
    | str b => simp [PyData.eqv] at e
    | _ => simp [pureD] at hy
  | .none, _, h, _, _ => by simp [pureD] at h
  | .bool _, _, h, _, _ => by simp [pureD] at h
  | .list _, _, h, _, _ => by simp [pureD] at h
  | .dict _, _, h, _, _ => by simp [pureD] at h
theorem eqvAll_pure : ∀ (xs ys : List PyData), pureA xs = true → pureA ys = true → PyData.eqvAll xs ys = true → xs = ys
  | [], [], _, _, _ => rfl
  | [], _ :: _, _, _, e => by simp [PyData.eqvAll] at e
  | _ :: _, [], _, _, e => by simp [PyData.eqvAll] at e
  | x :: xs, y :: ys, hx, hy, e => by
    rw [PySem.W.eqv_all_cons, Bool.and_eq_true] at e
    rw [eqv_pure x y (pureA_cons hx).1 (pureA_cons hy).1 e.1, eqvAll_pure xs ys (pureA_cons hx).2 (pureA_cons hy).2 e.2]
end
open PySem.W in
/-- what ltD tells is what the rows of signs tell -/
def LtSay (f : PyData → PyData → Option Bool) : Prop := ∀ x y c, pureD x = true → pureD y = true → f x y = some c → c = dataLt x y ∧ (PyData.eqv x y = false → ∀ l m, PyProof.Rows.lexLt itemOrd (keyToks x ++ l) (keyToks y ++ m) = dataLt x y)
open PySem.W in
theorem ltWith_toks {f : PyData → PyData → Option Bool} (hf : LtSay f) : ∀ (xs ys : List PyData) (c : Bool), pureA xs = true → pureA ys = true → ltWith f xs ys = some c →
    c = PyProof.Rows.lexLt itemOrd (keyToksAll xs) (keyToksAll ys) ∧ (PyData.eqvAll xs ys = false → ∀ l m, PyProof.Rows.lexLt itemOrd (keyToksAll xs ++ l) (keyToksAll ys ++ m) = PyProof.Rows.lexLt itemOrd (keyToksAll xs) (keyToksAll ys))
  | [], [], c, _, _, e => by
    simp only [ltWith, Option.some.injEq] at e
    subst e
    exact ⟨(lex_irrefl _).symm, fun e => absurd e (by simp [PyData.eqvAll])⟩
  | [], y :: ys, c, _, _, e => by
    simp only [ltWith, Option.some.injEq] at e
    subst e
    refine ⟨?_, fun _ l m => ?_⟩
    · rw [toks_all_cons]
      simp only [keyToksAll]
      rw [lex_diff (O := itemOrd) (by simp)]
      simp [itemLt]
    · simp only [keyToksAll, List.cons_append, List.nil_append]
      exact (lex_atom (by simp) _ _).trans (lex_atom (by simp) _ _).symm
  | x :: xs, [], c, _, _, e => by
    simp only [ltWith, Option.some.injEq] at e
    subst e
    refine ⟨?_, fun _ l m => ?_⟩
    · rw [toks_all_cons]
      simp only [keyToksAll]
      rw [lex_diff (O := itemOrd) (by simp)]
      simp [itemLt]
    · simp only [keyToksAll, List.cons_append, List.nil_append]
      exact (lex_atom (by simp) _ _).trans (lex_atom (by simp) _ _).symm
  | x :: xs, y :: ys, c, hx, hy, e => by
    obtain ⟨x1, x2⟩ := pureA_cons hx
    obtain ⟨y1, y2⟩ := pureA_cons hy
    rw [ltWith] at e
    rw [eqv_all_cons, toks_all_cons, toks_all_cons]
    cases hq : PyData.eqv x y with
    | true =>
      rw [if_pos hq] at e
      obtain ⟨b1, b2⟩ := ltWith_toks hf xs ys c x2 y2 e
      obtain rfl := eqv_pure x y x1 y1 hq
      rw [Bool.true_and]
      refine ⟨?_, fun e l m => ?_⟩
      · exact b1.trans ((lex_pre _ _ _).symm.trans (lex_self (O := itemOrd) _ _ _).symm)
      · simp only [List.cons_append, List.append_assoc]
        exact (lex_self (O := itemOrd) _ _ _).trans ((lex_pre _ _ _).trans ((b2 e l m).trans ((lex_pre _ _ _).symm.trans (lex_self (O := itemOrd) _ _ _).symm)))
    | false =>
      rw [if_neg (by rw [hq]; exact Bool.false_ne_true)] at e
      obtain ⟨a1, a2⟩ := hf x y c x1 y1 e
      rw [Bool.false_and]
      refine ⟨?_, fun _ l m => ?_⟩
      · exact a1.trans ((a2 hq _ _).symm.trans (lex_self (O := itemOrd) _ _ _).symm)
      · simp only [List.cons_append, List.append_assoc]
        exact (lex_self (O := itemOrd) _ _ _).trans ((a2 hq _ _).trans ((a2 hq _ _).symm.trans (lex_self (O := itemOrd) _ _ _).symm))
open PySem.W in
theorem ltD_toks : ∀ n, LtSay (ltD n)
  | 0 => fun _ _ _ _ _ h => by simp [ltD] at h
  | n + 1 => fun x y c hx hy h => by
    cases x with
    | int a =>
      cases y with
      | int b =>
        simp only [ltD, Option.some.injEq] at h
        subst h
        refine ⟨(dataLt_int a b).symm, fun e l m => ?_⟩
        have hne : a ≠ b := fun q => by subst q; simp [PyData.eqv] at e
        unfold dataLt
        simp only [keyToks, List.cons_append, List.nil_append]
        exact lex_atom (fun q => hne (Sum.inl.inj q)) l m
      | _ => simp [ltD] at h
    | str a =>
      cases y with
      | str b =>
        simp only [ltD, Option.some.injEq] at h
        subst h
        refine ⟨(dataLt_str a b).symm, fun e l m => ?_⟩
        have hne : a ≠ b := fun q => by subst q; simp [PyData.eqv] at e
        unfold dataLt
        simp only [keyToks, List.cons_append, List.nil_append]
        exact lex_atom (fun q => hne (str_of_cps (Sum.inr.inj q))) l m
      | _ => simp [ltD] at h
    | tuple xs =>
      cases y with
      | tuple ys =>
        simp only [ltD] at h
        obtain ⟨a1, a2⟩ := ltWith_toks (ltD_toks n) xs ys c (by simpa [pureD] using hx) (by simpa [pureD] using hy) h
        rw [dataLt_tuple]
        refine ⟨a1, fun e l m => ?_⟩
        simp only [keyToks]
        exact a2 (by simpa [PyData.eqv] using e) l m
      | _ => simp [ltD] at h
    | _ => simp [pureD] at hx
section
open PySem.SeqAt PySem.W
variable {prog : Program} {w : World} {A : Around} {E : Value → Shared → Prop} {s : Shared}
theorem katLex_mx {fin : Bool} {Q : Bool → Shared → Prop} (n : Nat) : ∀ (xs ys : List PyData) (c : Bool) (i : Nat) (vs ws : List Value) (as bs : List Addr), ReadsAll s.heap vs xs as → ReadsAll s.heap ws ys bs → pureA xs = true → pureA ys = true →
    A.units + min (PyData.depthAll xs) (PyData.depthAll ys) < cLine → ltWith (ltD n) xs ys = some c → fin = decide (xs.length < ys.length) → Q c s → KatLex prog w A false fin Q (vs.zip ws) i s
  | [], [], c, i, _, _, _, _, ra, rb, _, _, _, e, hf, hq => by
    cases ra
    cases rb
    simp only [ltWith, Option.some.injEq] at e
    subst e
    have e : fin = false := by rw [hf]; rfl
    subst e
    exact kat_nil hq
  | [], y :: ys, c, i, _, _, _, _, ra, rb, _, _, _, e, hf, hq => by
    cases ra
    simp only [ltWith, Option.some.injEq] at e
    subst e
    have e : fin = true := by rw [hf]; exact decide_eq_true (Nat.succ_pos _)
    subst e
    rw [List.zip_nil_left]
    exact kat_nil hq
  | x :: xs, [], c, i, _, _, _, _, ra, rb, _, _, _, e, hf, hq => by
    cases rb
    simp only [ltWith, Option.some.injEq] at e
    subst e
    have e : fin = false := by rw [hf]; exact decide_eq_false (Nat.not_lt_zero _)
    subst e
    rw [List.zip_nil_right]
    exact kat_nil hq
  | x :: xs, y :: ys, c, i, _, _, _, _, ra, rb, hx, hy, hu, e, hf, hq => by
    obtain ⟨x1, x2⟩ := pureA_cons hx
    obtain ⟨y1, y2⟩ := pureA_cons hy
    have hf' : fin = decide (xs.length < ys.length) := by
      rw [hf]
      simp only [List.length_cons, Nat.add_lt_add_iff_right]
    rw [ltWith] at e
    cases ra with
    | cons r rs =>
      cases rb with
      | cons r' rs' =>
        rw [List.zip_cons_cons]
        refine kat_cons (eqAt_plain x y A s _ _ _ _ r r' (pureD_plain x x1) (pureD_plain y y1) (room_head hu) prog w _ _ ?_)
        cases hxy : PyData.eqv x y with
        | true =>
          rw [if_pos hxy] at e
          exact kat_yes (katLex_mx n xs ys c (i + 1) _ _ _ _ rs rs' x2 y2 (room_tail hu) e hf' hq)
        | false =>
          rw [if_neg (by rw [hxy]; exact Bool.false_ne_true)] at e
          refine kat_no ?_
          rw [Bool.false_and, oneLt'_eq]
          simp only [Bool.false_eq_true, if_false]
          exact wpAny_bind (rcLt_data n x y c A s _ _ _ _ r r' (pureD_plain x x1) (pureD_plain y y1) (room_head hu) e prog w _ _ (wpAny_truthy_bool hq))
theorem dataKind_someX {h : Heap} {ds : List PyData} {v : Value} {d : PyData} {as : List Addr} (hd : d ∈ ds) (r : Reads h v d as) : (dataKind h ds).keyOf v = some (keyToks d) := by
  have q : ∃ d, d ∈ ds ∧ ∃ as, Reads h v d as := ⟨d, hd, as, r⟩
  have e : (dataKind h ds).keyOf v = some (keyToks q.choose) := by
    show (open Classical in if q : ∃ d, d ∈ ds ∧ ∃ as, Reads h v d as then some (keyToks q.choose) else none) = _
    rw [dif_pos q]
  obtain ⟨h1, as', h2⟩ := q.choose_spec
  rw [e, (reads_det (fun b o e _ => e) r h2).1]
theorem each_keysX {h : Heap} {ds : List PyData} {vs : List Value} (e : EachIs (fun v d => ∃ as, Reads h v d as) vs ds) : EachIs (fun v d => (dataKind h ds).keyOf v = some (keyToks d)) vs ds :=
  (each_mem e).mono fun _ _ ⟨⟨_, r⟩, hd⟩ => dataKind_someX hd r
theorem sortVals_dataX {β : Type} {h' : Heap} {R : Value → β → Prop} {enc : β → PyData} {vs : List Value} {bs : List β} (rev : Bool) (e : EachIs R vs bs) (er : EachIs (fun v b => ∃ as, Reads h' v (enc b) as) vs bs) :
    EachIs R (sortVals (dataKind h' (bs.map enc)) rev vs vs) (bs.mergeSort (dataLe rev enc)) :=
  sortVals_each (κ := dataKind h' (bs.map enc)) (fun b => keyToks (enc b)) e (each_of_map enc (each_keysX (each_map (R := fun v d => ∃ as, Reads h' v d as) enc er)))
theorem sortsAt_mx {vs : List Value} {ds : List PyData} (n : Nat) (e : EachIs (fun v d => ∃ as, Reads s.heap v d as) vs ds) (hp : ∀ d, d ∈ ds → pureD d = true) (hl : ∀ d, d ∈ ds → ∀ d', d' ∈ ds → ∃ c, ltD (n + 1) d d' = some c)
    (ht : ∀ d, d ∈ ds → ∃ xs r, d = .tuple (.tuple xs :: r)) (hu : ∀ d, d ∈ ds → A.units + d.depth < cLine) : SortsAt prog w A s (dataKind s.heap ds) vs := by
  refine ⟨fun v hv => ?_, ?_⟩
  · obtain ⟨d, hd, as, r⟩ := e.left v hv
    exact ⟨_, dataKind_someX hd r⟩
  · cases ds with
    | nil =>
      cases e
      exact ⟨general', fun E x y a b Q ha _ _ => (by
        obtain ⟨d, _, hd, _⟩ := dataKind_inv ha
        exact absurd hd (by simp)), fun h2 => absurd h2 (by simp)⟩
    | cons d₀ ds₀ =>
      refine ⟨tuples' false, ?_, fun h2 E Q hq => ?_⟩
      · intro E x y a b Q ha hb hq
        obtain ⟨d, as, hd, ra, rfl⟩ := dataKind_inv ha
        obtain ⟨d', as', hd', rb, rfl⟩ := dataKind_inv hb
        obtain ⟨c, hc⟩ := hl d hd d' hd'
        obtain ⟨x1, r1, rfl⟩ := ht d hd
        obtain ⟨x2, r2, rfl⟩ := ht d' hd'
        have hroom : A.units + min (PyData.depth (.tuple (.tuple x1 :: r1))) (PyData.depth (.tuple (.tuple x2 :: r2))) < cLine := Nat.lt_of_le_of_lt (Nat.add_le_add_left (Nat.min_le_left _ _) _) (hu _ hd)
        have hq' : Q (dataLt (.tuple (.tuple x1 :: r1)) (.tuple (.tuple x2 :: r2))) s := hq
        have p1 := hp _ hd
        have p2 := hp _ hd'
        rw [← (ltD_toks (n + 1) _ _ c p1 p2 hc).1] at hq'
        simp only [ltD] at hc
        cases ra with
        | @tuple l o xs m _ _ h1 h2 h3 h4 =>
          cases rb with
          | @tuple l' o' xs' m' _ _ k1 k2 k3 k4 =>
            have n1 : xs.size = (PyData.tuple x1 :: r1).length := by simpa using ReadsAll.length _ _ _ h4
            have n2 : xs'.size = (PyData.tuple x2 :: r2).length := by simpa using ReadsAll.length _ _ _ k4
            have q := room_in hroom
            exact kat_lt h1 h3 k1 k3 (katLex_mx n _ _ c 0 _ _ _ _ h4 k4 (by simpa [pureD] using p1) (by simpa [pureD] using p2) (by have : A.in1.units = A.units + 1 := rfl; omega) hc (by rw [n1, n2]) hq')
      · obtain ⟨fs, t1, t2, t3⟩ := each_katTups e fun d hd => by
          obtain ⟨xs, r, z⟩ := ht d hd
          exact ⟨_, _, z⟩
        refine kat_kind (T := Value.type "tuple") t1 (by omega) (fun f hf => ?_) (beq_self_eq_true _) hq
        obtain ⟨x, r, as, m1, m2⟩ := t3 f hf
        obtain ⟨xs, r', z⟩ := ht _ m1
        obtain ⟨rfl, rfl⟩ := List.cons.inj (PyData.tuple.inj z)
        exact looks_reads m2
end
/-- what may be sorted so: tuples, a tuple first -/
def srtMx (ts : List T) : Bool := okT (.lst ts) && decide (ts.length ≤ 16777216) && (toDs ts).all pureD && (toDs ts).all (fun d => (toDs ts).all fun e => (ltD 9 d e).isSome) && (toDs ts).all (fun d => match d with | .tuple (.tuple _ :: _) => true | _ => false) && decide (PyData.depthAll (toDs ts) ≤ 100)
theorem srtMx_iff {ts : List T} (h : srtMx ts = true) : okT (.lst ts) = true ∧ ts.length ≤ 16777216 ∧ (∀ d, d ∈ ts.map toD → pureD d = true) ∧ (∀ d, d ∈ ts.map toD → ∀ e, e ∈ ts.map toD → ∃ c, ltD (8 + 1) d e = some c) ∧ (∀ d, d ∈ ts.map toD → ∃ xs r, d = .tuple (.tuple xs :: r)) ∧ PyData.depthAll (toDs ts) ≤ 100 := by
  unfold srtMx at h
  simp only [Bool.and_eq_true, decide_eq_true_eq, List.all_eq_true] at h
  obtain ⟨⟨⟨⟨⟨h1, h2⟩, h3⟩, h4⟩, h5⟩, h6⟩ := h
  rw [toDs_map] at h3 h4 h5
  refine ⟨h1, h2, h3, fun d hd e he => Option.isSome_iff_exists.mp (h4 d hd e he), fun d hd => ?_, h6⟩
  have := h5 d hd
  split at this
  · exact ⟨_, _, rfl⟩
  · cases this
section
variable {X : Cx}
end
section
variable {X : Cx} {pos p : Pos} {e : Expr} {fa : Ea}
end
section
open PySem.W
variable {prog : Program} {w : World} {A : Around} {E : Value → Shared → Prop} {s : Shared}
end
section
variable {X : Cx}
end
section
variable {X : Cx} {pos p : Pos} {e : Expr} {fa : Ea}
end
end L2.Z
set_option Elab.async false
set_option linter.all false
set_option maxRecDepth 100000
set_option maxHeartbeats 3200000
namespace L2.Z
open PySem PySem.Spec PyProof.Rows
section
variable {X : Cx} {pins : List (Addr × Obj)} {σ : St} {H : Hp} {s : Shared} {g : G}
end
section
variable {X : Cx} {pos p : Pos} {e : Expr} {fp : Ep} {s : S}
end
end L2.Z
set_option Elab.async false
set_option linter.all false
set_option maxRecDepth 100000
set_option maxHeartbeats 2000000
namespace L2.Z
open PySem PySem.Spec PyProof.Rows
section
variable {X : Cx} {e e2 : Expr} {ta : TA} {fa : Ea} {p pos tpos : Pos} {elts : List Expr} {kk : Nat}
end
section
variable {fa : Ea} {s : S}
end
end L2.Z
set_option Elab.async false
set_option linter.all false
set_option maxRecDepth 100000
set_option maxHeartbeats 2000000
namespace L2.Z
open PySem PySem.Spec PyProof.Rows L2 PpSet
section
variable {P0 : Program} {w : World} {A : Around} {R : Result → Shared → Prop} {s : Shared} {el t0 i0 t1 i1 : Expr} {is0 is1 : List Expr} {sco : Scope} {ps : Pos} {it acc : Value} {en : Env}
end
section
variable {X : Cx}
variable {ps p : Pos} {tr itr elt tr1 itr1 : Expr} {f : Ev} {fa fb : Ea} {ft ft1 : Et} {pt pt1 : Pat}
end
end L2.Z
set_option Elab.async false
set_option linter.all false
set_option maxRecDepth 100000
set_option maxHeartbeats 3200000
namespace L2.Z
open PySem PySem.Spec PyProof.Rows
section
variable {X : Cx} {o c : Expr} {f h : Ev} {cpos apos : Pos}
end
section
variable {f h : Ev} {s : S}
end
end L2.Z
set_option Elab.async false
set_option linter.all false
set_option maxRecDepth 100000
set_option maxHeartbeats 3200000
namespace L2.Z
open PySem PySem.Spec PyProof.Rows
section
variable {prog : Program} {w : World} {A : Around} {E : Value → Shared → Prop} {s : Shared} {z TI TO i1 i2 : Addr} {fp1 fp2 : List Addr} {n1 n2 i : Nat} {P1 P2 : Nat → Value → Prop} {St1 St2 : Nat → Heap → Prop}
end
section
variable {X : Cx} {e e2 : Expr} {ta : TA} {p p2 pos pos2 : Pos}
end
end L2.Z
set_option Elab.async false
set_option linter.all false
set_option maxRecDepth 100000
set_option maxHeartbeats 3200000
namespace L2.Z
open PySem PySem.Spec PyProof.Rows
section
variable {X : Cx} {pos p : Pos} {e : Expr} {fp : Ep} {s : S}
end
section
variable {X : Cx} {e : Expr} {f : Ev} {pos : Pos} {s : S}
end
end L2.Z
set_option Elab.async false
set_option linter.all false
set_option maxRecDepth 100000
set_option maxHeartbeats 3200000
namespace L2.Z
open PySem PySem.Spec PyProof.Rows PySem.Calls
section
open PySem.SeqAt PySem.W
variable {prog : Program} {w : World} {A : Around} {s : Shared}
theorem keyLt'_general (x y : Value) : keyLt' general' x y = oneLt' false x y := rfl
/-- the call of a tuple's own __lt__, as sorting makes it, of data -/
theorem callLt_data {E : Value → Shared → Prop} {Q : Value → Shared → Prop} (n : Nat) {xs ys : List PyData} {k : Bool} {l l' : Addr} {as bs : List Addr} (ra : Reads s.heap (.ref l) (.tuple xs) as) (rb : Reads s.heap (.ref l') (.tuple ys) bs) (hd : PyData.plainAll xs = true) (he : PyData.plainAll ys = true) (hu : A.units + min (PyData.depth (.tuple xs)) (PyData.depth (.tuple ys)) < cLine) (h : ltWith (ltD n) xs ys = some k) (hq : Q (.bool k) s) :
    wpAny (model prog w) A (call (.builtin "tuple.__lt__") [.ref l, .ref l']) Q E s := by
  cases ra with
  | @tuple _ o vs n0 _ as₁ h1 h2 h3 h4 =>
    cases rb with
    | @tuple _ o' vs' n0' _ bs₁ k1 k2 k3 k4 =>
      have n1 : vs.size = xs.length := by simpa using ReadsAll.length _ _ _ h4
      have n2 : vs'.size = ys.length := by simpa using ReadsAll.length _ _ _ k4
      have hlow : A.in1.units + min (PyData.depthAll xs) (PyData.depthAll ys) < cLine := room_in hu
      have heq : ∀ j (a1 : j < vs.size) (a2 : j < vs'.size), EqAt A.in1 s vs[j] vs'[j] (PyData.eqv (xs[j]'(n1.symm ▸ a1)) (ys[j]'(n2.symm ▸ a2))) := fun j j1 j2 => by
        obtain ⟨⟨_, w1⟩, w2, w3⟩ := readsAll_at h4 hd j (by simpa using j1) (by omega)
        obtain ⟨⟨_, y1⟩, y2, y3⟩ := readsAll_at k4 he j (by simpa using j2) (by omega)
        exact eqAt_plain _ _ _ _ _ _ _ _ (by simpa using w1) (by simpa using y1) w2 y2 (by omega)
      have hrc : ∀ j (a1 : j < vs.size) (a2 : j < vs'.size), PyData.eqv (xs[j]'(n1.symm ▸ a1)) (ys[j]'(n2.symm ▸ a2)) = false → ∀ c, ltD n (xs[j]'(n1.symm ▸ a1)) (ys[j]'(n2.symm ▸ a2)) = some c → RcLt A.in1 s vs[j] vs'[j] c := fun j j1 j2 hj c hc => by
        obtain ⟨⟨_, w1⟩, w2, w3⟩ := readsAll_at h4 hd j (by simpa using j1) (by omega)
        obtain ⟨⟨_, y1⟩, y2, y3⟩ := readsAll_at k4 he j (by simpa using j2) (by omega)
        exact rcLt_data n _ _ c _ _ _ _ _ _ (by simpa using w1) (by simpa using y1) w2 y2 (by omega) hc
      obtain ⟨cls, dd, data, sl⟩ := o
      obtain ⟨cls2, dd2, data2, sl2⟩ := o'
      simp only at h2 h3 k2 k3
      subst h2 h3 k2 k3
      exact call_meets F.slot_tuple_lt ⟨_, h1, rfl⟩ F.entry_tuple_lt (F.args_tuple_lt_2 _ _) (tup_lt_first l l' vs vs' _ _ dd dd2 sl sl2 (ltD n) xs ys k n1.symm n2.symm h) ⟨h1, k1, heq, hrc, hq⟩
/-- tuples' first items, none of an empty one -/
def KatAny (h : Heap) : List Value → List (Option Value) → Prop
  | [], [] => True
  | v :: vs, f :: fs => (∃ a o xs n, v = .ref a ∧ h.get? a = some o ∧ o.cls = .type "tuple" ∧ o.data = .seq xs n ∧ xs[0]? = f) ∧ KatAny h vs fs
  | _, _ => False
theorem kat_firstsA {M : Model} {E : Value → Shared → Prop} : ∀ (vs : List Value) (fs : List (Option Value)) {Q : List (Option Value) → Shared → Prop}, KatAny s.heap vs fs → Q fs s → wpAny M A (vs.mapM firstOfTuple') Q E s
  | [], [], _, _, h => by rw [List.mapM_nil]; exact wpAny_pure h
  | [], _ :: _, _, t, _ => t.elim
  | _ :: _, [], _, t, _ => t.elim
  | v :: vs, f :: fs, Q, t, h => by
    obtain ⟨⟨a, o, xs, n, rfl, ho, hc, hd, hf⟩, t⟩ := t
    rw [List.mapM_cons]
    refine wpAny_bind ?_
    rw [kas_first_eq]
    refine wpAny_bind (Looks.here (show Looks M s.heap (typeOf (.ref a)) o.cls from (Looks.ld ho).andThen .now) ?_)
    rw [hc, if_neg (by first | decide | simp)]
    refine wpAny_bind (listItems_at ho hd (wpAny_pure ?_))
    rw [hf]
    exact wpAny_bind (kat_firstsA vs fs (Q := fun bs s' => wpAny M A (pure (f :: bs)) Q E s') t (wpAny_pure h))
/-- what kind of keys: an empty tuple among them -/
theorem kat_kindA {M : Model} {E : Value → Shared → Prop} {vs : List Value} {f₁ : Option Value} {fr : List (Option Value)} {Q : SortKind → Shared → Prop} (t : KatAny s.heap vs (f₁ :: fr)) (hn : none ∈ f₁ :: fr) (hT : ∀ v ∈ vs, Looks M s.heap (typeOf v) (Value.type "tuple")) (h : Q (if f₁.isSome then general' else oneType') s) :
    wpAny M A (keyKind' vs.toArray) Q E s := by
  rw [kat_kind_eq, List.mapM_toArray, map_eq_pure_bind]
  refine wpAny_bind (wpAny_bind (kat_firstsA vs _ t (wpAny_pure ?_)))
  have hall : ¬ ((f₁ :: fr).toArray.all fun x => x.isSome) = true := by
    intro z
    rw [List.all_toArray, List.all_eq_true] at z
    have := z none hn
    cases this
  rw [if_neg hall]
  have h0 : (f₁ :: fr).toArray[0]?.bind id = f₁ := by simp
  rw [h0]
  cases f₁ with
  | some x =>
    rw [if_pos (show (some x).isSome = true from rfl)]
    exact wpAny_pure h
  | none =>
    rw [if_neg (by simp)]
    obtain ⟨v₁, vr, rfl⟩ : ∃ v₁ vr, vs = v₁ :: vr := by
      cases vs with
      | nil => exact t.elim
      | cons v r => exact ⟨v, r, rfl⟩
    rw [oneTypeOnly'_eq, List.mapM_toArray, map_eq_pure_bind]
    refine wpAny_bind (wpAny_bind (wpAny_bind (kas_mapM (r := Value.type "tuple") _ (fun v hv Q' hq => (hT v hv).here hq) (wpAny_pure ?_))))
    have hall2 : ((List.map (fun _ => Value.type "tuple") (v₁ :: vr)).toArray.all fun x => x == Value.type "tuple") = true := by
      simp only [List.all_toArray, List.all_map, List.all_eq_true]
      intro _ _
      exact beq_self_eq_true _
    have h1 : (List.map (fun _ => Value.type "tuple") (v₁ :: vr)).toArray[0]? = some (Value.type "tuple") := by simp
    rw [h1]
    simp only [hall2, if_true]
    exact wpAny_pure (wpAny_pure h)
theorem each_katA {h : Heap} : ∀ {vs : List Value} {ds : List PyData}, EachIs (fun v d => ∃ as, Reads h v d as) vs ds → (∀ d, d ∈ ds → ∃ xs, d = .tuple xs) → ∃ fs, KatAny h vs fs ∧ fs.length = vs.length ∧ (.tuple [] ∈ ds → none ∈ fs)
  | _, _, .nil, _ => ⟨[], trivial, rfl, fun m => by cases m⟩
  | _, _, .cons (b := d) (bs := ds) r t, ht => by
    obtain ⟨fs, k1, k2, k3⟩ := each_katA t fun e me => ht e (List.mem_cons_of_mem _ me)
    obtain ⟨xs, rfl⟩ := ht d (List.mem_cons_self ..)
    obtain ⟨as, r⟩ := r
    cases r with
    | @tuple l o vs n _ as₁ h1 h2 h3 h4 =>
      refine ⟨vs[0]? :: fs, ⟨⟨l, o, vs, n, rfl, h1, h2, h3, rfl⟩, k1⟩, by rw [List.length_cons, List.length_cons, k2], fun m => ?_⟩
      rcases List.mem_cons.mp m with e | m
      · injection e with e
        subst e
        have n1 : vs.size = ([] : List PyData).length := by simpa using ReadsAll.length _ _ _ h4
        have : vs[0]? = none := Array.getElem?_eq_none (by rw [n1]; exact Nat.le_refl _)
        rw [this]
        exact List.mem_cons_self ..
      · exact List.mem_cons_of_mem _ (k3 m)
theorem sortsAt_ty {vs : List Value} {ds : List PyData} (n : Nat) (e : EachIs (fun v d => ∃ as, Reads s.heap v d as) vs ds) (hp : ∀ d, d ∈ ds → pureD d = true) (hl : ∀ d, d ∈ ds → ∀ d', d' ∈ ds → ∃ c, ltD (n + 1) d d' = some c)
    (ht : ∀ d, d ∈ ds → ∃ xs, d = .tuple xs) (hn : .tuple [] ∈ ds) (hu : ∀ d, d ∈ ds → A.units + d.depth < cLine) : SortsAt prog w A s (dataKind s.heap ds) vs := by
  refine ⟨fun v hv => ?_, ?_⟩
  · obtain ⟨d, hd, as, r⟩ := e.left v hv
    exact ⟨_, dataKind_someX hd r⟩
  · obtain ⟨fs, t1, t2, t3⟩ := each_katA e ht
    have hN := t3 hn
    obtain ⟨f₁, fr, rfl⟩ : ∃ f₁ fr, fs = f₁ :: fr := by
      cases fs with
      | nil => cases hN
      | cons f r => exact ⟨f, r, rfl⟩
    refine ⟨if f₁.isSome then general' else oneType', ?_, fun h2 E Q hq => kat_kindA t1 hN (fun v hv => ?_) hq⟩
    · intro E x y a b Q ha hb hq
      obtain ⟨d, as, hd, ra, rfl⟩ := dataKind_inv ha
      obtain ⟨d', as', hd', rb, rfl⟩ := dataKind_inv hb
      obtain ⟨c, hc⟩ := hl d hd d' hd'
      have hroom : A.units + min d.depth d'.depth < cLine := Nat.lt_of_le_of_lt (Nat.add_le_add_left (Nat.min_le_left _ _) _) (hu _ hd)
      have hq' : Q (dataLt d d') s := hq
      have p1 := hp _ hd
      have p2 := hp _ hd'
      rw [← (ltD_toks (n + 1) _ _ c p1 p2 hc).1] at hq'
      cases f₁ with
      | some f =>
        show wpAny _ _ (keyLt' general' x y) Q E s
        rw [keyLt'_general, oneLt'_eq]
        simp only [Bool.false_eq_true, if_false]
        exact wpAny_bind (rcLt_data (n + 1) _ _ c A s x y _ _ ra rb (pureD_plain _ p1) (pureD_plain _ p2) hroom hc prog w E _ (wpAny_truthy_bool hq'))
      | none =>
        show wpAny _ _ (keyLt' oneType' x y) Q E s
        obtain ⟨xs, rfl⟩ := ht d hd
        obtain ⟨ys, rfl⟩ := ht d' hd'
        rw [keyLt'_oneType, oneLt'_eq]
        simp only [if_true]
        refine wpAny_bind (wpAny_cRoomFor (room_here hroom) ?_)
        have hc' : ltWith (ltD n) xs ys = some c := hc
        have q1 := pureD_plain _ p1
        have q2 := pureD_plain _ p2
        rw [PyData.plain] at q1 q2
        cases ra with
        | @tuple l o vs0 n0 _ as₁ h1 h2 h3 h4 =>
          cases rb with
          | @tuple l' o' vs1 n1 _ bs₁ k1 k2 k3 k4 =>
            exact wpAny_bind (wpAny_callSpecialIfBound?_slot (T := "tuple") ⟨_, h1, h2⟩ F.slot_tuple_lt (callLt_data n (.tuple h1 h2 h3 h4) (.tuple k1 k2 k3 k4) q1 q2 hroom hc' (wpAny_truthy_bool hq')))
    · obtain ⟨d, hd, as, r⟩ := e.left v hv
      obtain ⟨xs, rfl⟩ := ht d hd
      exact looks_reads r
end
/-- what may be sorted so: tuples, an empty one among them -/
def srtTy (ts : List T) : Bool := okT (.lst ts) && decide (ts.length ≤ 16777216) && (toDs ts).all pureD && (toDs ts).all (fun d => (toDs ts).all fun e => (ltD 9 d e).isSome) && (toDs ts).all (fun d => match d with | .tuple _ => true | _ => false) && (toDs ts).any (fun d => match d with | .tuple [] => true | _ => false) && decide (PyData.depthAll (toDs ts) ≤ 100)
theorem srtTy_iff {ts : List T} (h : srtTy ts = true) : okT (.lst ts) = true ∧ ts.length ≤ 16777216 ∧ (∀ d, d ∈ ts.map toD → pureD d = true) ∧ (∀ d, d ∈ ts.map toD → ∀ e, e ∈ ts.map toD → ∃ c, ltD (8 + 1) d e = some c) ∧ (∀ d, d ∈ ts.map toD → ∃ xs, d = .tuple xs) ∧ .tuple [] ∈ ts.map toD ∧ PyData.depthAll (toDs ts) ≤ 100 := by
  unfold srtTy at h
  simp only [Bool.and_eq_true, decide_eq_true_eq, List.all_eq_true, List.any_eq_true] at h
  obtain ⟨⟨⟨⟨⟨⟨h1, h2⟩, h3⟩, h4⟩, h5⟩, h7⟩, h6⟩ := h
  rw [toDs_map] at h3 h4 h5 h7
  refine ⟨h1, h2, h3, fun d hd e he => Option.isSome_iff_exists.mp (h4 d hd e he), fun d hd => ?_, ?_, h6⟩
  · have := h5 d hd
    split at this
    · exact ⟨_, rfl⟩
    · cases this
  · obtain ⟨d, hd, q⟩ := h7
    split at q
    · exact hd
    · cases q
section
variable {X : Cx} {pins : List (Addr × Obj)} {σ : St} {H : Hp} {s : Shared} {g : G}
end
section
variable {X : Cx} {pos p : Pos} {e : Expr} {fp : Ep} {s : S}
end
end L2.Z
set_option Elab.async false
set_option linter.all false
set_option maxRecDepth 100000
set_option maxHeartbeats 3200000
namespace L2.Z
open PySem PySem.Spec PyProof.Rows
section
variable {X : Cx} {pos p p2 pos2 : Pos} {e : Expr} {fa : Ea}
end
end L2.Z
set_option Elab.async false
set_option linter.all false
set_option maxRecDepth 100000
set_option maxHeartbeats 3200000
namespace L2.Z
open PySem PySem.Spec PyProof.Rows
section
variable {X : Cx} {pos spos : Pos} {tg e iter elt tg1 iter1 : Expr} {f h : Ev} {fa fb : Ea} {ft ft1 : Et} {pt pt1 : Pat}
end
end L2.Z
set_option Elab.async false
set_option linter.all false
set_option maxRecDepth 100000
set_option maxHeartbeats 3200000
namespace L2.Z
open PySem PySem.Spec PyProof.Rows
section
variable {X : Cx} {pos spos : Pos} {kx vx tg iter : Expr} {fa : Ea} {pt : Pat} {ft : Et} {fk fv : Ev}
end
end L2.Z
set_option Elab.async false
set_option linter.all false
set_option maxRecDepth 100000
set_option maxHeartbeats 3200000
namespace L2.Z
open PySem PySem.Spec PyProof.Rows
section
variable {X : Cx} {x y z : Str} {a d : Addr} {pos pos1 pos' p q : Pos} {i : Nat} {c : Expr} {ft : Et}
end
structure FnW (P : Program) (w : World) (K : PySem.W.Frag) (mg : Str → Option Value) (base : Heap) (k : Nat) (z : Str) (F : Fd) : Prop where
  ex : ∃ (f : Addr) (fd : FuncData) (ps : List Str), PySem.W.nsIn K mainGlobals z = some (some (.ref f)) ∧ FnG P w K mg base k f fd ps F ∧ LenF ps.length F ∧ PySem.W.keepIn K (.ref f) = true ∧ Binds K fd ps []
section
variable {X : Cx} {x : Str} {p pos : Pos} {e : Expr} {es : List Expr} {fa : Ea} {i k : Nat} {tbl : List (Str × Fd)}
end
section
variable {X : Cx} {es : List Expr} {zs : List Str} {us : List V} {x : Str} {p tp pos : Pos} {i k : Nat} {f : Ev} {elt : Expr}
end
section
variable {X : Cx} {e : Expr} {fp : Ep} {pos : Pos}
end
end L2.Z
set_option Elab.async false
set_option linter.all false
set_option maxRecDepth 100000
set_option maxHeartbeats 3200000
namespace L2.Z
open PySem PySem.Spec PyProof.Rows
section
variable {X : Cx} {W : WX} {a c d : Expr} {f h : En} {ft : Et} {pos : Pos}
end
section
variable {X : Cx} {x n : Str} {te te1 : Expr} {f f1 : Value → Option Bool} {b₀ : Stmt} {suite : List Stmt} {ts : Addr → Value → Option Addr → TS} {pos1 : Pos} {i j : Nat} {body : List Stmt} {p1 p2 p3 pos pos' : Pos} {tb : WX → TS} {Wout : WX}
end
section
variable {X : Cx} {x n : Str} {te te1 : Expr} {f f1 : Value → Option Bool} {mt mt1 : Str → Option Bool} {b₀ : Stmt} {suite : List Stmt} {sh : Sv} {pos1 : Pos} {i j : Nat} {body : List Stmt} {p1 p2 p3 pos pos' : Pos} {sf : Sv} {Wout : WX}
end
section
variable {X : Cx} {i : Nat} {x : Str} {p pos : Pos}
end
end L2.Z
set_option Elab.async false
set_option linter.all false
set_option maxRecDepth 100000
set_option maxHeartbeats 3200000
namespace L2.Z
open PySem PySem.Spec PyProof.Rows
/-- what a set's search asks of the things it holds -/
structure InS {P : Program} {w : World} {K : Type} [DecidableEq K] (knd : HeapKind P w K) : Prop where
  stays : knd.Stays
  cls : ∀ {A : Around} {E : Value → Shared → Prop} {s : Shared} {k : K} {b : Addr} {Q : Bool → Shared → Prop}, knd.is s.heap k b → Q false s → wpAny (model P w) A (ofAClassStatement 8 (.ref b)) Q E s
  byv : ∀ {A : Around} {E : Value → Shared → Prop} {s : Shared} {k : K} {b : Addr} {Q : Bool → Shared → Prop}, knd.is s.heap k b → (∀ x, Q x s) → wpAny (model P w) A (hashByValue 8 (.ref b)) Q E s
section
variable {P : Program} {w : World} {K : Type} [DecidableEq K] {knd : HeapKind P w K} {A : Around} {E : Value → Shared → Prop} {s : Shared}
theorem seenK (F : InS knd) {k : K} {b : Addr} {Q : Bool → Shared → Prop} (hk : knd.is s.heap k b) {ys : List Value} (hy : ∀ y ∈ ys, ∃ k' c, y = Value.ref c ∧ knd.is s.heap k' c) (h : Q false s) : wpAny (model P w) A (searchCouldBeSeen (.ref b) ys) Q E s := by
  unfold searchCouldBeSeen
  refine wpAny_bind (wpAny_forIn_list _ (fun rest r s' => r.1 = none ∧ s' = s ∧ ∀ y ∈ rest, ∃ k' c, y = Value.ref c ∧ knd.is s.heap k' c) _ ?_ ?_ _ _ ⟨rfl, rfl, hy⟩)
  · rintro v rest r s' ⟨_, rfl, al⟩
    obtain ⟨k', c, rfl, hc⟩ := al v List.mem_cons_self
    have al2 := fun u m => al u (List.mem_cons_of_mem _ m)
    dsimp only
    by_cases hv : (b == c || (carriedByValue (.ref b) && carriedByValue (.ref c))) = true
    · exact wp_if_pos hv (wpAny_pure ⟨rfl, rfl, al2⟩)
    · refine wp_if_neg hv (wpAny_bind (knd.quiet hk ?_))
      simp only [Bool.not_true, Bool.false_eq_true, if_false]
      refine wpAny_bind (knd.quiet hc ?_)
      simp only [Bool.not_true, Bool.false_eq_true, if_false]
      refine wpAny_bind (F.cls hk ?_)
      simp only [Bool.false_eq_true, if_false]
      refine wpAny_bind (F.cls hc ?_)
      simp only [Bool.false_eq_true, if_false]
      exact wpAny_pure ⟨rfl, rfl, al2⟩
  · rintro ⟨r1, r2⟩ s' ⟨hr, rfl, _⟩
    simp only at hr
    subst hr
    exact wpAny_pure h
/-- a set of few things -/
structure SetF (knd : HeapKind P w K) (h : Heap) (a : Addr) (L : List (Addr × K)) (es : Array (Int × Value)) (ep : Nat) (t : SetTable) : Prop where
  ob : ∃ o, h.get? a = some o ∧ o.ExactSet ∧ o.data = .set es ep t
  rows : es.toList = L.map fun p => (knd.hash p.2, Value.ref p.1)
  tab : TabOk t (L.map fun p => knd.hash p.2)
  nd : (L.map (·.2)).Nodup
  its : ∀ p ∈ L, knd.is h p.2 p.1
  m7 : t.mask = 7
  led : w.params.followText "set-order" = true ∨ t.led = true
  few : L.length ≤ 4
variable {a : Addr} {L : List (Addr × K)} {es : Array (Int × Value)} {ep : Nat} {t : SetTable}
theorem SetF.size {h : Heap} (R : SetF knd h a L es ep t) : es.size = L.length := by
  have := congrArg List.length R.rows
  rwa [Array.length_toList, List.length_map] at this
theorem SetF.fits {h : Heap} (R : SetF knd h a L es ep t) : t.fits es.size = true := by
  have h1 := R.tab.sz
  rw [List.length_map] at h1
  have h2 := R.size
  have h3 := R.few
  have h4 := R.m7
  unfold SetTable.fits SetTable.fill
  rw [R.tab.dm, Bool.and_eq_true, beq_iff_eq, decide_eq_true_eq]
  show t.place.size = es.size ∧ t.place.size + 0 ≤ t.mask
  omega
theorem SetF.entry {h : Heap} (R : SetF knd h a L es ep t) {i : Nat} {p : Addr × K} (hp : L[i]? = some p) : es[i]? = some (knd.hash p.2, Value.ref p.1) := by
  rw [← Array.getElem?_toList, R.rows, List.getElem?_map, hp]
  rfl
theorem SetF.gw {h : Heap} (R : SetF knd h a L es ep t) : ¬ t.gaveWay = true := by
  unfold SetTable.gaveWay
  rw [R.m7]
  decide
abbrev wayP (m : Nat) (h : Int) (c : Nat) : SetTable.Probe := nth m (runAt m (SetTable.bits h % (m + 1)) (SetTable.bits h)) c
theorem wayP_dm (m : Nat) (h : Int) (c : Nat) : (wayP m h c).dummy = none := by
  have key : ∀ (n : Nat) (p : SetTable.Probe), p.dummy = none → (nth m p n).dummy = none := by
    intro n
    induction n with
    | zero => exact fun _ e => e
    | succ n ih =>
      refine fun p e => ih (adv m p) ?_
      unfold adv
      split <;> exact e
  exact key c _ rfl
theorem wayP_add (m : Nat) (h : Int) (c q : Nat) : nth m (wayP m h c) q = wayP m h (c + q) := (nth_add m c _ q).symm
/-- what a set holds behind i of some unlike things: these -/
theorem SetF.keep (F : InS knd) {h h' : Heap} (R : SetF knd h a L es ep t) (ha : ∀ o, h.get? a = some o → h'.get? a = some o) (hk : ∀ b o, h.get? b = some o → h'.get? b = some o) : SetF knd h' a L es ep t := by
  obtain ⟨o, ho, r⟩ := R.ob
  exact ⟨⟨o, ha o ho, r⟩, R.rows, R.tab, R.nd, fun p m => F.stays.stays (fun b o _ _ e _ => hk b o e) (R.its p m), R.m7, R.led, R.few⟩
theorem SetF.fresh {h : Heap} (ho : h.get? a = some (emptyS w)) : SetF knd h a [] #[] 0 (.fresh 0 0 (!w.params.followText "set-order")) where
  ob := ⟨_, ho, ⟨rfl, rfl, rfl⟩, rfl⟩
  rows := rfl
  tab := ⟨List.Pairwise.nil, rfl, rfl, .inl rfl, fun x hx => (by cases hx), fun i h j hi => (by simp at hi)⟩
  nd := List.nodup_nil
  its := fun p hp => (by cases hp)
  m7 := rfl
  led := by
    show _ ∨ (!w.params.followText "set-order") = true
    cases w.params.followText "set-order" <;> simp
  few := Nat.zero_le _
section
variable {R : Result → Shared → Prop} {I : Addr} {fp wr : List Addr} {G : Array GenState → Array GenState → Prop} {n : Nat} {Pv : Nat → Value → Prop} {St : Nat → Shared → Prop}
end
end
section
variable {P : Program} {w : World} {A : Around} {E : Value → Shared → Prop} {s : Shared}
theorem nestAll_mem {h : Heap} : ∀ {ks : List NestedKey} {vs : List Value}, NestedAll h ks vs → ∀ v ∈ vs, ∃ k ∈ ks, NestedIs h k v
  | _, _, .nil, _, m => by cases m
  | _, _, .cons r rr, v, m => by
    rcases List.mem_cons.mp m with e | m
    · exact ⟨_, List.mem_cons_self .., e ▸ r⟩
    · obtain ⟨k, mk, q⟩ := nestAll_mem rr v m
      exact ⟨k, List.mem_cons_of_mem _ mk, q⟩
theorem depAll_mem : ∀ {ks : List NestedKey} {k : NestedKey}, k ∈ ks → k.depth ≤ NestedKey.depthAll ks
  | x :: ks, k, m => by
    rw [NestedKey.depthAll]
    rcases List.mem_cons.mp m with e | m
    · rw [e]
      omega
    · have := depAll_mem m
      omega
theorem nest_cls : ∀ (n : Nat) (k : NestedKey) (v : Value), NestedIs s.heap k v → k.depth ≤ n → ∀ {Q : Bool → Shared → Prop}, Q false s → wpAny (model P w) A (ofAClassStatement n v) Q E s := by
  intro n
  induction n with
  | zero =>
    intro k v x hd Q h
    cases x with
    | tup _ _ _ _ => rw [NestedKey.depth] at hd; omega
    | _ => exact wpAny_pure h
  | succ n ih =>
    intro k v x hd Q h
    cases x with
    | @tup b o vs m ks h1 h2 h3 h4 =>
      rw [NestedKey.depth] at hd
      have hT : s.TypeIs (.ref b) "tuple" := ⟨_, h1, h2⟩
      unfold ofAClassStatement
      refine wpAny_bind (wpAny_typeOf hT ?_)
      dsimp only
      have e : (("tuple" : String) == "tuple") = true := by decide
      simp only [e, if_true, Bool.not_true, Bool.false_eq_true, if_false]
      try refine wpAny_bind (wpAny_pure ?_)
      try simp only [Bool.not_true, Bool.false_eq_true, if_false]
      show wpAny _ _ (seqItems? (.ref b) >>= _) _ _ s
      refine wpAny_bind (wpAny_seqItems h1 h3 ?_)
      dsimp only
      refine wpAny_bind ?_
      show wpAny _ _ (forIn vs _ _) _ _ s
      rw [← Array.forIn_toList]
      refine wpAny_forIn_list _ (fun rest r s' => r.1 = none ∧ s' = s ∧ ∀ v ∈ rest, ∃ k ∈ ks, NestedIs s.heap k v) _ ?_ ?_ _ _ ⟨rfl, rfl, nestAll_mem h4⟩
      · rintro v rest r s' ⟨_, rfl, al⟩
        obtain ⟨k, mk, x⟩ := al v List.mem_cons_self
        have := depAll_mem mk
        refine wpAny_bind (ih k v x (by omega) ?_)
        simp only [Bool.false_eq_true, if_false]
        exact wpAny_pure ⟨rfl, rfl, fun u m => al u (List.mem_cons_of_mem _ m)⟩
      · rintro ⟨r1, r2⟩ s' ⟨hr, rfl, _⟩
        simp only at hr
        subst hr
        exact wpAny_pure h
    | _ => exact wpAny_pure h
theorem nest_byv : ∀ (n : Nat) (k : NestedKey) (v : Value), NestedIs s.heap k v → ∀ {Q : Bool → Shared → Prop}, (∀ x, Q x s) → wpAny (model P w) A (hashByValue n v) Q E s := by
  intro n
  induction n with
  | zero =>
    intro k v x Q h
    cases x <;> exact wpAny_pure (h _)
  | succ n ih =>
    intro k v x Q h
    cases x with
    | @tup b o vs m ks h1 h2 h3 h4 =>
      have hT : s.TypeIs (.ref b) "tuple" := ⟨_, h1, h2⟩
      unfold hashByValue
      refine wpAny_bind (wpAny_specialOf hT PySem.F.slot_tuple_hash.lookup ?_)
      show wpAny _ _ (seqItems? (.ref b) >>= _) _ _ s
      refine wpAny_bind (wpAny_seqItems h1 h3 ?_)
      refine wpAny_bind ?_
      show wpAny _ _ (forIn vs _ _) _ _ s
      rw [← Array.forIn_toList]
      refine wpAny_forIn_list _ (fun rest r s' => s' = s ∧ ∀ v ∈ rest, ∃ k ∈ ks, NestedIs s.heap k v) _ ?_ ?_ _ _ ⟨rfl, nestAll_mem h4⟩
      · rintro v rest r s' ⟨rfl, al⟩
        obtain ⟨k, mk, x⟩ := al v List.mem_cons_self
        refine wpAny_bind (ih k v x fun b => ?_)
        cases b with
        | true =>
          simp only [Bool.not_true, Bool.false_eq_true, if_false]
          exact wpAny_pure ⟨rfl, fun u m => al u (List.mem_cons_of_mem _ m)⟩
        | false =>
          simp only [Bool.not_false, if_true]
          exact wpAny_pure (wpAny_pure (h _))
      · rintro ⟨r1, r2⟩ s' ⟨rfl, _⟩
        cases r1 <;> exact wpAny_pure (h _)
    | _ => exact wpAny_pure (h _)
theorem nest_in : InS (nestedKind P w) := ⟨nestedKind_stays, fun hk h => nest_cls 8 _ _ hk.1 hk.2 h, fun hk h => nest_byv 8 _ _ hk.1 h⟩
end
def SetN0 (P : Program) (w : World) (h : Heap) (a : Addr) (L : List (Addr × NestedKey)) : Prop :=
  ∃ o es ep t, h.get? a = some o ∧ o.ExactSet ∧ o.data = .set es ep t ∧ es.toList = (L.map fun p => ((nestedKind P w).hash p.2, Value.ref p.1)) ∧ es.size < scanBound ∧ t.fits es.size = true ∧ Ris t.place.toList ∧ (w.params.followText "set-order" = true ∨ t.led = true)
def SetNO (P : Program) (w : World) (a : Addr) (L : List (Addr × NestedKey)) : HO := .ext fun h => SetN0 P w h a L
theorem setN_new {P : Program} {w : World} {H : Hp} {h : Heap} {a : Addr} {L : List (Addr × NestedKey)} (R : SetN0 P w h a L) : ObjOk P w H h a (SetNO P w a L) := by
  have ⟨o, _, _, _, ho, _⟩ := R
  exact ⟨R, ⟨o, ho⟩, fun h1 h2 ⟨o, es, ep, t, ho, r⟩ k => ⟨o, es, ep, t, k _ ho, r⟩⟩
theorem vals_refsN {L : List (Addr × NestedKey)} : ∀ {us : List Value}, Vals (L.map fun p => V.ref p.1) us → us = L.map fun p => Value.ref p.1 := by
  induction L with
  | nil => intro us h; cases h; rfl
  | cons p L ih =>
    intro us h
    cases h with
    | cons r rr =>
      rw [List.map_cons, ← ih rr]
      exact congrArg (· :: _) r
section
variable {X : Cx} {pins : List (Addr × Obj)} {σ : St} {H : Hp} {s : Shared} {g : G}
/-- each two strictly one ahead of the other -/
def strictT : List T → Bool
  | [] => true
  | x :: l => (l.all fun y => ltD 9 (toD x) (toD y) == some true || ltD 9 (toD y) (toD x) == some true) && strictT l
theorem strict_toks {x y : T} (px : pureD (toD x) = true) (py : pureD (toD y) = true) (h : (ltD 9 (toD x) (toD y) == some true) = true) : PySem.W.keyToks (toD x) ≠ PySem.W.keyToks (toD y) := fun e => by
  have h1 := (ltD_toks 9 _ _ true px py (eq_of_beq h)).1
  unfold PySem.W.dataLt at h1
  rw [e] at h1
  have h2 := PySem.W.lex_pre (PySem.W.keyToks (toD y)) [] []
  rw [List.append_nil] at h2
  rw [h2] at h1
  cases h1
theorem strictT_inj : ∀ {l : List T}, strictT l = true → (∀ x ∈ l, pureD (toD x) = true) → l.Nodup ∧ ∀ x ∈ l, ∀ y ∈ l, PySem.W.keyToks (toD x) = PySem.W.keyToks (toD y) → x = y
  | [], _, _ => ⟨List.nodup_nil, fun _ m => by cases m⟩
  | x :: l, h, hp => by
    unfold strictT at h
    obtain ⟨h1, h2⟩ := Bool.and_eq_true_iff.mp h
    obtain ⟨n, i⟩ := strictT_inj h2 fun y m => hp y (List.mem_cons_of_mem _ m)
    have px := hp x (List.mem_cons_self ..)
    have ne : ∀ y ∈ l, PySem.W.keyToks (toD x) ≠ PySem.W.keyToks (toD y) := fun y m => by
      have py := hp y (List.mem_cons_of_mem _ m)
      rcases Bool.or_eq_true_iff.mp (List.all_eq_true.mp h1 y m) with c | c
      · exact strict_toks px py c
      · exact fun e => strict_toks py px c e.symm
    refine ⟨List.nodup_cons.mpr ⟨fun m => ne x m rfl, n⟩, fun a ma b mb e => ?_⟩
    rcases List.mem_cons.mp ma with e1 | m1
    · rcases List.mem_cons.mp mb with e2 | m2
      · rw [e1, e2]
      · rw [e1] at e
        exact absurd e (ne b m2)
    · rcases List.mem_cons.mp mb with e2 | m2
      · rw [e2] at e
        exact absurd e.symm (ne a m1)
      · exact i a m1 b m2 e
theorem repL_perm {K : Kx} {g : G} {H : Hp} {Vs Ws : List V} (p : Vs.Perm Ws) : ∀ {ts : List T}, RepL K g H Vs ts → ∃ us, us.Perm ts ∧ RepL K g H Ws us := by
  induction p with
  | nil => exact fun r => ⟨_, List.Perm.refl _, r⟩
  | cons v _ ih =>
    intro ts r
    cases r with
    | cons r rr =>
      obtain ⟨us, p, q⟩ := ih rr
      exact ⟨_ :: us, p.cons _, .cons r q⟩
  | swap v u l =>
    intro ts r
    cases r with
    | cons r rr =>
      cases rr with
      | cons r2 rr => exact ⟨_, List.Perm.swap .., .cons r2 (.cons r rr)⟩
  | trans _ _ i1 i2 =>
    intro ts r
    obtain ⟨us, p, q⟩ := i1 r
    obtain ⟨ws, p2, q2⟩ := i2 q
    exact ⟨ws, p2.trans p, q2⟩
/-- the rest of sorted, its items collected, tuples of mixed kinds -/
theorem sort_restN {ts : List T} {vs : List Value} {Vs : List V} {Q : VK} (I : Inv X pins σ H s) (hu : X.A.units + 103 < cLine) (rv : Vals Vs vs) (hr : RepL X.kx g H Vs ts) (hk : (srtTy ts || srtMx ts) = true) (q : ∀ Vs p, RepL X.kx g H Vs (sortT ts) → H p = none → Q (.ref p) (upd H p (.lst Vs))) :
    wpAny (model X.prog X.w) X.A.in1 (do
      let l ← newList vs
      let _ ← holding [l] (call (.builtin "list.sort") [l] [])
      ret l) (fun f s' => ∃ v, f = .done (.ret v) ∧ EP X pins σ Q v s') X.xe s := by
  have b1 : okT (.lst ts) = true ∧ ts.length ≤ 16777216 ∧ PyData.depthAll (toDs ts) ≤ 100 := by
    rcases Bool.or_eq_true_iff.mp hk with c | c
    · obtain ⟨k1, k2, _, _, _, _, k6⟩ := srtTy_iff c
      exact ⟨k1, k2, k6⟩
    · obtain ⟨k1, k2, _, _, _, k6⟩ := srtMx_iff c
      exact ⟨k1, k2, k6⟩
  obtain ⟨k1, k2, k6⟩ := b1
  have lv : vs.length = ts.length := by rw [← rv.length, hr.length]
  have z : vs.length ≤ sizeLine := by rw [lv]; exact fit_of k2
  refine wpAny_bind (wpAny_newList ?_ z)
  have at0 : (s.heap.push (seqObj "list" vs.toArray 0)).get? s.heap.objs.size = some (seqObj "list" vs.toArray 0) := Heap.get?_push_size _ rfl
  show wpAny _ _ _ _ _ { s with heap := s.heap.push (seqObj "list" vs.toArray 0) }
  generalize hh : s.heap.push (seqObj "list" vs.toArray 0) = h1 at at0 ⊢
  have old1 : ∀ b o, s.heap.get? b = some o → h1.get? b = some o := fun b o e => by rw [← hh]; exact Heap.get?_push_of_some _ e
  have old : ∀ b o, s.heap.get? b = some o → (PySem.W.sortingHeap h1 s.heap.objs.size vs).get? b = some o := fun b o e => PySem.W.sortingHeap_old (Nat.ne_of_lt (Heap.lt_size e)) (old1 b o e)
  have er : PySem.W.EachIs (fun v b => ∃ as, Reads (PySem.W.sortingHeap h1 s.heap.objs.size vs) v (toD b) as) vs ts :=
    (each_reads I rv hr (by simpa [okT, toD, PyData.plain] using k1)).mono fun _ _ ⟨as, r⟩ => ⟨as, PyProof.Rows.Reads.keeps old r⟩
  have rm : ∀ d, d ∈ ts.map toD → X.A.in1.in1.units + d.depth < cLine := PySem.W.bound_map fun b hb => by
    have := depth_le hb
    have : X.A.in1.in1.units ≤ X.A.units + 2 := by first | exact Nat.le_refl _ | (simp [Around.in1])
    omega
  have em := PySem.W.each_map (R := fun v d => ∃ as, Reads (PySem.W.sortingHeap h1 s.heap.objs.size vs) v d as) toD er
  have sa : PySem.W.SortsAt X.prog X.w X.A.in1.in1 { s with heap := PySem.W.sortingHeap h1 s.heap.objs.size vs } (PySem.W.dataKind (PySem.W.sortingHeap h1 s.heap.objs.size vs) (ts.map toD)) vs := by
    rcases Bool.or_eq_true_iff.mp hk with c | c
    · obtain ⟨_, _, k3, k4, k5, k7, _⟩ := srtTy_iff c
      exact sortsAt_ty (s := { s with heap := PySem.W.sortingHeap h1 s.heap.objs.size vs }) 8 em k3 k4 k5 k7 rm
    · obtain ⟨_, _, k3, k4, k5, _⟩ := srtMx_iff c
      exact sortsAt_mx (s := { s with heap := PySem.W.sortingHeap h1 s.heap.objs.size vs }) 8 em k3 k4 k5 rm
  refine wpAny_bind (wpAny_holding (wpAny_call_entry PyProof.Rows.slot_list_sort ⟨_, at0, rfl⟩ PyProof.Rows.entry_list_sort
    (PySem.W.list_sort_vals (s := { s with heap := h1 }) (κ := PySem.W.dataKind (PySem.W.sortingHeap h1 s.heap.objs.size vs) (ts.map toD)) at0 sa z ⟨.none, rfl, ?_⟩)
    (PyProof.Rows.args_list_sort _)))
  have eo := sortVals_dataX false (each_of rv hr) er
  obtain ⟨Ws, rw', rr⟩ := of_each eo
  obtain ⟨e', he'⟩ := PyProof.Rows.sortedHeap_at (vs := vs) (out := (PySem.W.sortVals (PySem.W.dataKind (PySem.W.sortingHeap h1 s.heap.objs.size vs) (ts.map toD)) false vs vs).toArray) at0
  have lw : Ws.length ≤ sizeLine := by
    rw [rr.length, List.length_mergeSort]
    exact fit_of k2
  refine wpAny_pure ⟨_, rfl, .ref s.heap.objs.size, upd H s.heap.objs.size (.lst Ws), I.laid (t' := s.toks) (fun b u e => ?_) (Nat.le_refl _) ⟨lw, _, e', rw', he'⟩, rfl, q Ws _ rr (I.hok.fresh (Nat.le_refl _))⟩
  have hb : b < s.heap.objs.size := Heap.lt_size e
  rw [PyProof.Rows.sortedHeap_old (Nat.ne_of_lt hb) (by rw [← hh, size_push']; exact Nat.lt_succ_of_lt hb)]
  exact old1 b u e
theorem perm_map {α β : Type} {f : α → β} {l : List α} : ∀ {m : List β}, m.Perm (l.map f) → ∃ k : List α, k.Perm l ∧ m = k.map f := by
  intro m h
  generalize hn : l.map f = n at h
  induction h generalizing l with
  | nil => exact ⟨[], by rw [List.map_eq_nil_iff.mp hn], rfl⟩
  | cons x _ ih =>
    cases l with
    | nil => cases hn
    | cons a l =>
      obtain ⟨rfl, e⟩ := List.cons.inj hn
      obtain ⟨k, p, q⟩ := ih e
      exact ⟨a :: k, p.cons _, by rw [q]; rfl⟩
  | swap x y l2 =>
    cases l with
    | nil => cases hn
    | cons a l =>
      cases l with
      | nil => cases hn
      | cons b l =>
        obtain ⟨rfl, e⟩ := List.cons.inj hn
        obtain ⟨rfl, rfl⟩ := List.cons.inj e
        exact ⟨b :: a :: l, List.Perm.swap .., rfl⟩
  | trans _ _ i1 i2 =>
    obtain ⟨k2, p2, rfl⟩ := i2 hn
    obtain ⟨k1, p1, rfl⟩ := i1 rfl
    exact ⟨k1, p1.trans p2, rfl⟩
def rSortSN (K : Kx) : List V → Hp → VK → Prop := fun xs H Q => ∃ (g : G) (a : Addr) (L : List (Addr × NestedKey)) (ts : List T), xs = [.ref a] ∧ H a = some (SetNO K.P K.w a L) ∧ RepL K g H (L.map fun p => V.ref p.1) ts ∧ (∀ us : List T, us.Perm ts → (srtTy us || srtMx us) = true) ∧ (∀ us : List T, us.Perm ts → sortT us = sortT ts) ∧
  ∀ Vs p, RepL K g H Vs (sortT ts) → H p = none → Q (.ref p) (upd H p (.lst Vs))
theorem cr_sortSN (hc : X.calm = true) (hu : X.A.units + 103 < cLine) : CallR X (.builtin "sorted") (rSortSN X.kx) := by
  intro pins s σ H xs us Q I rs ⟨g, a, L, ts, e, h1, hr, hk, hs, q⟩
  subst e
  obtain ⟨u, rfl, ru⟩ := vals1 rs
  obtain rfl : u = Value.ref a := ru
  obtain ⟨o, es, ep, t, ho, hx, hd, g1, hb, hf, hri, hl⟩ := (I.hok a _ h1).1
  refine Calls.call_function_entry PyProof.Rows.kind_sorted PyProof.Rows.plain_sorted PyProof.Rows.entry_sorted (PyProof.Rows.args_sorted1 _) ?_
  unfold Builtin.«sorted»
  refine wpAny_bind (m := checkCount "sorted" 1 1 _) (wpAny_pure ?_)
  refine wpAny_bind (collect_set (A := X.A.in1) (I.ok.hd hc) ⟨o, ho, hx.1, hd⟩ hf hb hri hl fun s1 out k1 hz e1 e2 pm => ?_)
  obtain ⟨h', ge, dr, tk, os⟩ := s1
  obtain rfl : ge = s.gens := e1
  obtain rfl : os = s.os := e2
  have I1 : Inv X pins σ H { s with heap := h', gens := s.gens, drawn := dr, toks := tk } := I.call (ch := []) (Un.kept k1) (I.hok.kept k1) I.bare (fun _ z => nomatch z)
  rw [g1, List.map_map] at pm
  obtain ⟨M, pM, rfl⟩ : ∃ M : List (Addr × NestedKey), M.Perm L ∧ out = M.map fun p => Value.ref p.1 := perm_map pm
  have rv : Vals (M.map fun p => V.ref p.1) (M.map fun p => Value.ref p.1) := by
    clear pm pM
    induction M with
    | nil => exact .nil
    | cons p M ih => exact .cons rfl ih
  obtain ⟨us, pu, ru⟩ := repL_perm (pM.symm.map fun p => V.ref p.1) hr
  refine sort_restN I1 hu rv ru (hk us pu) fun Vs p r hp => ?_
  rw [hs us pu] at r
  exact q Vs p r hp
end
mutual
theorem nkT_inj : ∀ {x y : T} {k : NestedKey}, nk0 x = some k → nk0 y = some k → x = y
  | .int i, y, k, h1, h2 => by
    rw [nk0] at h1
    cases h1
    cases y with
    | int j => rw [nk0] at h2; cases h2; rfl
    | tup ts =>
      rw [nk0] at h2
      cases q : nks ts with
      | none => rw [q] at h2; cases h2
      | some l => rw [q] at h2; cases h2
    | str z => rw [nk0] at h2; cases h2
    | _ => simp [nk0] at h2
  | .str i, y, k, h1, h2 => by
    rw [nk0] at h1
    cases h1
    cases y with
    | int j => rw [nk0] at h2; cases h2
    | tup ts =>
      rw [nk0] at h2
      cases q : nks ts with
      | none => rw [q] at h2; cases h2
      | some l => rw [q] at h2; cases h2
    | str z => rw [nk0] at h2; cases h2; rfl
    | _ => simp [nk0] at h2
  | .tup xs, y, k, h1, h2 => by
    rw [nk0] at h1
    cases q : nks xs with
    | none => rw [q] at h1; cases h1
    | some l =>
      rw [q] at h1
      cases h1
      cases y with
      | int j => rw [nk0] at h2; cases h2
      | str j => rw [nk0] at h2; cases h2
      | tup ts =>
        rw [nk0] at h2
        cases q2 : nks ts with
        | none => rw [q2] at h2; cases h2
        | some l2 =>
          rw [q2] at h2
          cases h2
          rw [nksT_inj q q2]
      | _ => simp [nk0] at h2
  | .non, _, _, h, _ => by simp [nk0] at h
  | .bl _, _, _, h, _ => by simp [nk0] at h
  | .lst _, _, _, h, _ => by simp [nk0] at h
  | .dct _ _, _, _, h, _ => by simp [nk0] at h
  | .dcn _ _, _, _, h, _ => by simp [nk0] at h
  | .loc _, _, _, h, _ => by simp [nk0] at h
  | .pr _, _, _, h, _ => by simp [nk0] at h
theorem nksT_inj : ∀ {xs ys : List T} {l : List NestedKey}, nks xs = some l → nks ys = some l → xs = ys
  | [], ys, l, h1, h2 => by
    rw [nks] at h1
    cases h1
    cases ys with
    | nil => rfl
    | cons y ys =>
      rw [nks] at h2
      cases q : nk0 y with
      | none => rw [q] at h2; cases h2
      | some k =>
        cases q2 : nks ys with
        | none => rw [q, q2] at h2; cases h2
        | some r => rw [q, q2] at h2; cases h2
  | x :: xs, ys, l, h1, h2 => by
    rw [nks] at h1
    cases q : nk0 x with
    | none => rw [q] at h1; cases h1
    | some k =>
      cases q2 : nks xs with
      | none => rw [q, q2] at h1; cases h1
      | some r =>
        rw [q, q2] at h1
        cases h1
        cases ys with
        | nil => rw [nks] at h2; cases h2
        | cons y ys =>
          rw [nks] at h2
          cases q3 : nk0 y with
          | none => rw [q3] at h2; cases h2
          | some k2 =>
            cases q4 : nks ys with
            | none => rw [q3, q4] at h2; cases h2
            | some r2 =>
              rw [q3, q4] at h2
              cases h2
              rw [nkT_inj q q3, nksT_inj q2 q4]
end
theorem keysN {K : Kx} {g : G} {H : Hp} : ∀ {vs : List V} {ts : List T}, RepL K g H vs ts → ts.all nkOk = true → ∃ L : List (Addr × NestedKey), vs = (L.map fun p => V.ref p.1) ∧ (∀ p ∈ L, KOk K H p.1 p.2) ∧ (L.map fun p => some p.2) = ts.map nkey
  | _, _, .nil, _ => ⟨[], rfl, (fun _ m => by cases m), rfl⟩
  | _, _, .cons (v := v) (t := t) r rr, h => by
    rw [List.all_cons, Bool.and_eq_true] at h
    obtain ⟨L, e1, e2, e3⟩ := keysN rr h.2
    have h1 := h.1
    unfold nkOk at h1
    obtain ⟨c1, c2⟩ := Bool.and_eq_true_iff.mp h1
    obtain ⟨k, ek⟩ := Option.isSome_iff_exists.mp c2
    cases t with
    | tup ts0 =>
      obtain ⟨a, rfl⟩ : ∃ a, v = .ref a := by cases r; exact ⟨_, rfl⟩
      refine ⟨(a, k) :: L, by rw [e1]; rfl, fun p m => ?_, by rw [List.map_cons, List.map_cons, e3, ek]⟩
      rcases List.mem_cons.mp m with rfl | m
      · exact ⟨g, _, r, ek⟩
      · exact e2 p m
    | _ => cases c1
theorem nd_keys {ts : List T} (nd : ts.Nodup) (h : ts.all nkOk = true) {L : List (Addr × NestedKey)} (e : (L.map fun p => some p.2) = ts.map nkey) : (L.map (·.2)).Nodup := by
  have h1 : (ts.map nkey).Nodup := by
    refine List.nodup_iff_pairwise_ne.mpr (List.pairwise_map.mpr ?_)
    refine List.Pairwise.imp_of_mem (fun {a b} ma mb ne z => ?_) (List.nodup_iff_pairwise_ne.mp nd)
    have ha := List.all_eq_true.mp h a ma
    unfold nkOk at ha
    obtain ⟨k, ek⟩ := Option.isSome_iff_exists.mp (Bool.and_eq_true_iff.mp ha).2
    exact ne (nkT_inj (nkey_ok ek).1 (nkey_ok (z ▸ ek)).1)
  rw [← e] at h1
  have e2 : (L.map fun p => some p.2) = (L.map (·.2)).map some := by rw [List.map_map]; rfl
  rw [e2] at h1
  exact List.Pairwise.of_map some (fun a b ne e => ne (congrArg some e)) h1
theorem plainAll_all : ∀ l : List PyData, PyData.plainAll l = l.all PyData.plain
  | [] => rfl
  | x :: l => by rw [PyData.plainAll, plainAll_all l]; rfl
theorem depthAll_perm {l m : List PyData} (p : l.Perm m) : PyData.depthAll l = PyData.depthAll m := by
  induction p with
  | nil => rfl
  | cons x _ ih => rw [PyData.depthAll, PyData.depthAll, ih]
  | swap x y l => simp only [PyData.depthAll]; omega
  | trans _ _ i1 i2 => exact i1.trans i2
theorem srt_perm {us ts : List T} (p : us.Perm ts) : srtTy us = srtTy ts ∧ srtMx us = srtMx ts := by
  have q : (toDs us).Perm (toDs ts) := by
    rw [toDs_map, toDs_map]
    exact p.map toD
  have e1 : okT (.lst us) = okT (.lst ts) := by
    show (toD (.lst us)).plain = (toD (.lst ts)).plain
    rw [toD, toD, PyData.plain, PyData.plain, plainAll_all, plainAll_all]
    exact q.all_eq
  have e2 : (toDs us).all (fun d => (toDs us).all fun e => (ltD 9 d e).isSome) = (toDs ts).all (fun d => (toDs ts).all fun e => (ltD 9 d e).isSome) := by
    rw [q.all_eq]
    congr 1
    funext d
    exact q.all_eq
  unfold srtTy srtMx
  rw [e1, e2, p.length_eq, q.all_eq, q.all_eq, q.all_eq, q.any_eq, depthAll_perm q]
  exact ⟨rfl, rfl⟩
theorem sortT_permTn {l m : List T} (p : l.Perm m) (inj : ∀ x ∈ l, ∀ y ∈ l, PySem.W.keyToks (toD x) = PySem.W.keyToks (toD y) → x = y) : sortT l = sortT m := by
  have tl := PySem.W.sortLe_total (PyProof.Rows.listOrd PyProof.Rows.itemOrd) false (fun b : T => PySem.W.keyToks (toD b))
  refine List.Perm.eq_of_pairwise (le := fun a b => PySem.W.dataLe false toD a b = true) (fun a b ha hb h1 h2 => ?_) (PySem.W.sort_pairwise tl _) (PySem.W.sort_pairwise tl _) ((List.mergeSort_perm _ _).trans (p.trans (List.mergeSort_perm _ _).symm))
  have ma := (List.mergeSort_perm _ _).mem_iff.mp ha
  have mb := p.symm.mem_iff.mp ((List.mergeSort_perm _ _).mem_iff.mp hb)
  refine inj a ma b mb ((PyProof.Rows.listOrd PyProof.Rows.itemOrd).total _ _ ?_ ?_)
  · have h2 : (!PyProof.Rows.lexLt PyProof.Rows.itemOrd (PySem.W.keyToks (toD a)) (PySem.W.keyToks (toD b))) = true := h2
    simpa using h2
  · have h1 : (!PyProof.Rows.lexLt PyProof.Rows.itemOrd (PySem.W.keyToks (toD b)) (PySem.W.keyToks (toD a))) = true := h1
    simpa using h1
section
variable {X : Cx} {pos p pos2 p2 : Pos} {e : Expr} {fa : Ea}
end
end L2.Z
set_option Elab.async false
set_option linter.all false
set_option maxRecDepth 100000
set_option maxHeartbeats 3200000
namespace L2.Z
open PySem PySem.Spec PyProof.Rows
section
variable {X : Cx} {pos p : Pos} {e : Expr} {fa : Ea}
end
section
variable {P : Program} {w : World} {K : Type} [DecidableEq K] {knd : HeapKind P w K} {A : Around} {E : Value → Shared → Prop} {s : Shared}
inductive HitsH (P : Program) (w : World) {K : Type} [DecidableEq K] (A : Around) (s : Shared) (ys : List (K × Addr × Value)) : List (K × Addr × Value) → Bool → Prop
  | nil : HitsH P w A s ys [] true
  | miss {k : K} {p : Addr × Value} {r : List (K × Addr × Value)} : atKey ys k = none → HitsH P w A s ys ((k, p) :: r) false
  | hit {k : K} {p q : Addr × Value} {r : List (K × Addr × Value)} {e b : Bool} : atKey ys k = some q → PySem.SeqAt.EqP P w A s p.2 q.2 e → HitsH P w A s ys r b → HitsH P w A s ys ((k, p) :: r) (e && b)
end
section
variable {X : Cx} {pins : List (Addr × Obj)} {σ : St} {H : Hp} {s : Shared} {g g2 : G}
end
section
variable {X : Cx} {a c : Expr} {pos : Pos} {fp : Ep} {h : Ev}
end
end L2.Z
set_option Elab.async false
set_option linter.all false
set_option maxRecDepth 100000
set_option maxHeartbeats 3200000
namespace L2.Z
open PySem PySem.Spec PyProof.Rows
section
variable {prog : Program} {w : World} {A : Around} {E : Value → Shared → Prop} {s : Shared}
open PySem
end
section
variable {X : Cx}
end
end L2.Z
set_option Elab.async false
set_option linter.all false
set_option maxRecDepth 100000
set_option maxHeartbeats 3200000
namespace L2.Z
open PySem PySem.Spec PyProof.Rows
section
variable {X : Cx} {pos : Pos} {fa : Ens}
end
section
variable {p q r : Pat} {i : Nat} {f : Ens} {s : S}
end
end L2.Z
set_option Elab.async false
set_option linter.all false
set_option maxRecDepth 100000
set_option maxHeartbeats 3200000
namespace L2.Z
open PySem PySem.Spec PyProof.Rows
section
variable {prog : Program} {w : World} {A : Around} {E : Value → Shared → Prop} {s : Shared} {z TI TO i1 i2 : Addr} {fp1 fp2 : List Addr} {n1 n2 i : Nat} {P1 P2 : Nat → Value → Prop} {St1 St2 : Nat → Heap → Prop}
end
section
variable {X : Cx} {e e2 : Expr} {ta : TA} {p p2 pos pos2 : Pos}
end
end L2.Z
set_option Elab.async false
set_option linter.all false
set_option maxRecDepth 100000
set_option maxHeartbeats 3200000
namespace L2.Z
open PySem PySem.Spec PyProof.Rows
section
variable {P : Program} {w : World} {K : Type} [DecidableEq K] {knd : HeapKind P w K} {A : Around} {E : Value → Shared → Prop} {s : Shared}
/-- a set of few things -/
structure SetG (knd : HeapKind P w K) (h : Heap) (a : Addr) (L : List (Addr × K)) (es : Array (Int × Value)) (ep : Nat) (t : SetTable) : Prop where
  ob : ∃ o, h.get? a = some o ∧ o.ExactSet ∧ o.data = .set es ep t
  rows : es.toList = L.map fun p => (knd.hash p.2, Value.ref p.1)
  tab : TabOk t (L.map fun p => knd.hash p.2)
  nd : (L.map (·.2)).Nodup
  its : ∀ p ∈ L, knd.is h p.2 p.1
  led : w.params.followText "set-order" = true ∨ t.led = true
  room : L.length * 5 < t.mask * 3
  few : L.length < 64
variable {a : Addr} {L : List (Addr × K)} {es : Array (Int × Value)} {ep : Nat} {t : SetTable}
theorem SetG.size {h : Heap} (R : SetG knd h a L es ep t) : es.size = L.length := by
  have := congrArg List.length R.rows
  rwa [Array.length_toList, List.length_map] at this
theorem SetG.fits {h : Heap} (R : SetG knd h a L es ep t) : t.fits es.size = true := by
  have h1 := R.tab.sz
  rw [List.length_map] at h1
  have h2 := R.size
  have h3 := R.room
  unfold SetTable.fits SetTable.fill
  rw [R.tab.dm, Bool.and_eq_true, beq_iff_eq, decide_eq_true_eq]
  show t.place.size = es.size ∧ t.place.size + 0 ≤ t.mask
  omega
theorem SetG.entry {h : Heap} (R : SetG knd h a L es ep t) {i : Nat} {p : Addr × K} (hp : L[i]? = some p) : es[i]? = some (knd.hash p.2, Value.ref p.1) := by
  rw [← Array.getElem?_toList, R.rows, List.getElem?_map, hp]
  rfl
theorem SetG.gw {h : Heap} (R : SetG knd h a L es ep t) : ¬ t.gaveWay = true := by
  unfold SetTable.gaveWay
  rw [mask_odd R.tab.mok]
  decide
/-- the search from some step of its way on -/
theorem searchG (F : InS knd) (R : SetG knd s.heap a L es ep t) {x : Addr} {k : K} (hx : knd.is s.heap k x) (hu : knd.room A) {N : Nat} (hNf : N < 10 * SetTable.turns t.mask) (hN : way t.mask (knd.hash k) N ∉ t.place.toList)
    (hb : ∀ c, c < N → way t.mask (knd.hash k) c ∈ t.place.toList) {Q : SetFound → Shared → Prop} (hin : k ∈ L.map (·.2) → Q (.there none) s) (hout : k ∉ L.map (·.2) → Q (.free (way t.mask (knd.hash k) N) false) s) :
    ∀ (f c : Nat) (stand : Option SetTable.Probe), stand.getD (t.probeStart (knd.hash k)) = wayP t.mask (knd.hash k) c → c ≤ N → N - c < f →
      (∀ (i : Nat) p, L[i]? = some p → p.2 = k → ∃ c', c ≤ c' ∧ c' < N ∧ t.place.toList[i]? = some (way t.mask (knd.hash k) c')) →
      wpAny (model P w) A (setSearchFrom a (.ref x) (knd.hash k) true f stand) Q E s
  | 0, _, _, _, _, hf, _ => absurd hf (Nat.not_lt_zero _)
  | f + 1, c, stand, hst, hc, hf, hre => by
    obtain ⟨o, ho, _, hd⟩ := R.ob
    obtain ⟨H, hH⟩ : ∃ H, H = knd.hash k := ⟨_, rfl⟩
    rw [← hH] at hN hb hout hst hre ⊢
    rw [setSearchFrom_succ]
    refine wpAny_bind (wpAny_setState_of ho hd R.fits ?_)
    dsimp only
    refine wp_if_neg R.gw ?_
    try refine wpAny_bind (wpAny_pure ?_)
    have e1 : ∀ q, (nth t.mask (wayP t.mask H c) q).j = way t.mask H (c + q) := fun q => congrArg SetTable.Probe.j (wayP_add t.mask H c q)
    have eN : c + (N - c) = N := by omega
    have spec := go_spec t R.tab.ris R.tab.dm (fun i => (es[i]?.map (·.1)).getD 0) H (10 * SetTable.turns t.mask) (N - c) _ (wayP_dm t.mask H c) (by omega) (fun q hq => by rw [e1]; exact hb (c + q) (by omega)) (by rw [e1, eN]; exact hN)
    have hashAt : ∀ (i : Nat) p, L[i]? = some p → (fun i => (es[i]?.map (·.1)).getD 0) i = knd.hash p.2 := fun i p hp => by
      show (es[i]?.map (·.1)).getD 0 = _
      rw [R.entry hp]
      rfl
    rcases spec with ⟨q, i, hq, hi, hh, hno, hpr⟩ | ⟨hno, hpr⟩
    · have hpr' : t.probe (fun i => (es[i]?.map (·.1)).getD 0) H (stand.getD (t.probeStart H)) = some (.candidate (way t.mask H (c + q)) i (wayP t.mask H (c + (q + 1)))) := by
        rw [hst, ← e1, ← wayP_add]
        exact hpr
      rw [hpr']
      dsimp only
      rw [e1] at hi
      have hil : i < L.length := by
        have h1 : i < t.place.toList.length := (List.getElem?_eq_some_iff.mp hi).1
        have h2 := R.tab.sz
        rw [List.length_map] at h2
        rw [Array.length_toList] at h1
        omega
      obtain ⟨p, hp⟩ : ∃ p, L[i]? = some p := ⟨_, List.getElem?_eq_getElem hil⟩
      have mp : p ∈ L := List.mem_of_getElem? hp
      have rest : wpAny (model P w) A (searchRest a (.ref x) H true f es t (way t.mask H (c + q)) i (wayP t.mask H (c + (q + 1)))) Q E s := by
        unfold searchRest
        rw [R.entry hp]
        dsimp only
        refine wpAny_bind (wpAny_holding (knd.eqBool hu (R.its p mp) hx ?_))
        refine wpAny_bind (wpAny_setState_of ho hd R.fits ?_)
        dsimp only
        by_cases hkk : p.2 = k
        · exact wp_if_pos (by simp [hkk]) (wpAny_pure (hin (List.mem_map.mpr ⟨p, mp, hkk⟩)))
        · refine wp_if_neg (by simp [hkk]) ?_
          try refine wpAny_bind (wpAny_pure ?_)
          rw [sameMem]
          dsimp only
          have sl : t.slot (way t.mask H (c + q)) = .live i := slot_live R.tab.ris hi
          simp only [if_true, sl, R.entry hp]
          refine wpAny_bind (wpAny_isSame_ref_self (wpAny_bind (wpAny_pure ?_)))
          simp only [if_true]
          refine wp_if_neg (by simp [hkk]) ?_
          subst hH
          refine searchG F R hx hu hNf hN hb hin hout f (c + (q + 1)) _ rfl (by omega) (by omega) fun i0 p0 h0 hk0 => ?_
          obtain ⟨c', a1, a2, a3⟩ := hre i0 p0 h0 hk0
          refine ⟨c', ?_, a2, a3⟩
          rcases Nat.lt_or_ge c' (c + q) with z | z
          · refine absurd ?_ (hno (c' - c) i0 (by omega) (by rw [e1, show c + (c' - c) = c' by omega]; exact a3))
            exact (hashAt i0 p0 h0).trans (congrArg knd.hash hk0)
          · rcases Nat.lt_or_ge (c + q) c' with y | y
            · omega
            · exfalso
              have ec : c' = c + q := Nat.le_antisymm y z
              rw [ec] at a3
              have s0 := slot_live R.tab.ris a3
              rw [sl] at s0
              injection s0 with s0
              rw [← s0, hp] at h0
              exact hkk ((congrArg Prod.snd (Option.some.inj h0)).trans hk0)
      by_cases hl : t.led = true
      · refine wp_if_neg (by simp [hl]) ?_
        try refine wpAny_bind (wpAny_pure ?_)
        exact rest
      · refine wp_if_pos (by simp [hl]) (wpAny_bind (seenK F hx (fun y hy => ?_) ?_))
        · obtain ⟨e, he, ee⟩ := List.mem_map.mp hy
          have he1 : e ∈ es ∧ e.1 = H := by simpa using he
          have he2 : e ∈ es.toList := by simpa using he1.1
          rw [R.rows] at he2
          obtain ⟨p2, hp2, e2⟩ := List.mem_map.mp he2
          exact ⟨p2.2, p2.1, by rw [← ee, ← e2], R.its p2 hp2⟩
        · refine wp_if_neg (by decide) ?_
          try refine wpAny_bind (wpAny_pure ?_)
          exact rest
    · have hpr' : t.probe (fun i => (es[i]?.map (·.1)).getD 0) H (stand.getD (t.probeStart H)) = some (.empty (way t.mask H N) none) := by
        have e2 : way t.mask H N = (nth t.mask (wayP t.mask H c) (N - c)).j := by rw [e1, eN]
        rw [hst, e2]
        exact hpr
      rw [hpr']
      dsimp only
      refine wpAny_pure (hout fun hm => ?_)
      obtain ⟨p0, h0, hk0⟩ := List.mem_map.mp hm
      obtain ⟨i0, hi0, e0⟩ := List.getElem_of_mem h0
      have h00 : L[i0]? = some p0 := by rw [List.getElem?_eq_getElem hi0, e0]
      obtain ⟨c', a1, a2, a3⟩ := hre i0 p0 h00 hk0
      refine hno (c' - c) i0 (by omega) (by rw [e1, show c + (c' - c) = c' by omega]; exact a3) ?_
      exact (hashAt i0 p0 h00).trans (by rw [hk0, hH])
theorem searchG_at (F : InS knd) (R : SetG knd s.heap a L es ep t) {x : Addr} {k : K} (hx : knd.is s.heap k x) (hu : knd.room A) {Q : SetFound → Shared → Prop} (hin : k ∈ L.map (·.2) → Q (.there none) s)
    (hout : ∀ N, k ∉ L.map (·.2) → way t.mask (knd.hash k) N ∉ t.place.toList → (∀ c, c < N → way t.mask (knd.hash k) c ∈ t.place.toList) → Q (.free (way t.mask (knd.hash k) N) false) s) : wpAny (model P w) A (setSearch a (.ref x) (knd.hash k) true) Q E s := by
  have few := R.few
  have room := R.room
  obtain ⟨N, hNf, hN, hb⟩ := R.tab.first (by rw [List.length_map]; omega) (knd.hash k)
  have big : N < 100000 := by
    have : 10 * SetTable.turns t.mask ≤ 1420 := by
      unfold SetTable.turns
      rcases R.tab.mok with e | e | e <;> omega
    omega
  unfold setSearch
  refine searchG F R hx hu hNf hN hb hin (fun hn => hout N hn hN hb) 100000 0 none rfl (Nat.zero_le _) (by omega) fun i p hp hk => ?_
  have hi : (L.map fun p => knd.hash p.2)[i]? = some (knd.hash k) := by
    rw [List.getElem?_map, hp, ← hk]
    rfl
  have hil : i < t.place.toList.length := by
    have h1 : i < L.length := (List.getElem?_eq_some_iff.mp hp).1
    have h2 := R.tab.sz
    rw [List.length_map] at h2
    rw [Array.length_toList]
    omega
  have hj := List.getElem?_eq_getElem hil
  obtain ⟨c, hc, e⟩ := R.tab.before hN hi hj
  exact ⟨c, Nat.zero_le _, hc, by rw [hj, e]⟩
theorem order_rowsG (L : List (Addr × K)) (es : Array (Int × Value)) (order : Array Nat) (hr : es.toList = L.map fun p => (knd.hash p.2, Value.ref p.1)) (hp : order.toList.Perm (List.range L.length)) :
    ∃ L2 : List (Addr × K), (order.filterMap (es[·]?)).toList = (L2.map fun p => (knd.hash p.2, Value.ref p.1)) ∧ L2.Perm L ∧ (L2.map fun p => knd.hash p.2) = order.toList.map fun i => (es.map (·.1)).getD i 0 := by
  have hsz : es.size = L.length := by
    have h := congrArg List.length hr
    rw [Array.length_toList, List.length_map] at h
    exact h
  have ent : ∀ i (h : i < L.length), es[i]? = some (knd.hash (L[i]).2, Value.ref (L[i]).1) := fun i h => by
    rw [← Array.getElem?_toList, hr]
    rw [List.getElem?_map, List.getElem?_eq_getElem h] <;> rfl
  have key : ∀ l : List Nat, (∀ i ∈ l, i < L.length) → ∃ L2 : List (Addr × K), l.filterMap (fun i => es[i]?) = (L2.map fun p => (knd.hash p.2, Value.ref p.1)) ∧ L2 = l.filterMap (fun i => L[i]?) ∧ (L2.map fun p => knd.hash p.2) = l.map fun i => (es.map (·.1)).getD i 0 := by
    intro l
    induction l with
    | nil => intro _; exact ⟨[], rfl, rfl, rfl⟩
    | cons i l ih =>
      intro hl
      have hi := hl i List.mem_cons_self
      obtain ⟨L2, e1, e2, e3⟩ := ih fun j hj => hl j (List.mem_cons_of_mem _ hj)
      refine ⟨L[i] :: L2, ?_, ?_, ?_⟩
      · rw [List.filterMap_cons_some (ent i hi), e1] <;> rfl
      · rw [List.filterMap_cons_some (List.getElem?_eq_getElem hi), e2]
      · rw [List.map_cons, List.map_cons, e3]
        have hi2 : i < (es.map (·.1)).size := by rw [Array.size_map, hsz]; exact hi
        have e4 : (es.map (·.1)).getD i 0 = knd.hash (L[i]).2 := by
          have e5 : (es.map (·.1))[i]? = some (knd.hash (L[i]).2) := by rw [Array.getElem?_map, ent i hi] <;> rfl
          simp [Array.getD_eq_getD_getElem?, e5]
        rw [e4]
  obtain ⟨L2, e1, e2, e3⟩ := key order.toList fun i hi => List.mem_range.mp (hp.mem_iff.mp hi)
  refine ⟨L2, by first | (rw [Array.toList_filterMap]; exact e1) | simpa using e1, ?_, e3⟩
  have h1 : L2.Perm ((List.range L.length).filterMap fun i => L[i]?) := by
    rw [e2]
    exact hp.filterMap _
  have h2 : (List.range L.length).filterMap (fun i => L[i]?) = L := by
    have key2 : ∀ n, n ≤ L.length → (List.range n).filterMap (fun i => L[i]?) = L.take n := by
      intro n
      induction n with
      | zero => intro _; rfl
      | succ n ih =>
        intro hn
        have hlt : n < L.length := hn
        rw [List.range_succ, List.filterMap_append, ih (Nat.le_of_lt hlt), List.take_succ, List.getElem?_eq_getElem hlt]
        rw [List.filterMap_cons_some (List.getElem?_eq_getElem hlt)] <;> rfl
    rw [key2 L.length (Nat.le_refl _), List.take_length]
  rw [h2] at h1
  exact h1
/-- the table laid anew, larger -/
theorem relayG (F : InS knd) {o : Obj} (ho : s.heap.get? a = some o) (hex : o.ExactSet) (hd : o.data = .set es ep t) (hrows : es.toList = L.map fun p => (knd.hash p.2, Value.ref p.1)) (hsz : t.place.size = es.size) (hdm : t.dummies = #[]) (hfl : es.size ≤ t.mask)
    (nd : (L.map (·.2)).Nodup) (its : ∀ p ∈ L, knd.is s.heap p.2 p.1) (ld : w.params.followText "set-order" = true ∨ t.led = true) (few : L.length < 64) {wanted M : Nat}
    (hw : SetTable.sizeAbove wanted - 1 = M) (hM : MaskOk M) (hw2 : SetTable.sizeAbove wanted ≤ 128) (hn : L.length * 5 < M * 3) {Q : Unit → Shared → Prop}
    (hQ : ∀ h' L' es' ep' t', Heap.SameBut a s.heap h' → SetG knd h' a L' es' ep' t' → L'.Perm L → Q () { s with heap := h' }) : wpAny (model P w) A (setRelay a wanted) Q E s := by
  have hsl : es.size = L.length := by
    have h := congrArg List.length hrows
    rw [Array.length_toList, List.length_map] at h
    exact h
  have hfits : t.fits es.size = true := by
    unfold SetTable.fits SetTable.fill
    rw [hdm, Bool.and_eq_true, beq_iff_eq, decide_eq_true_eq]
    show t.place.size = es.size ∧ t.place.size + 0 ≤ t.mask
    omega
  obtain ⟨t', order, e, hp, T, em, el, ep', ed⟩ := relaid_ok t (hs := es.map (·.1)) (wanted := wanted) hw hM (by rw [Array.size_map, hsl]; omega)
  rw [Array.size_map, hsl] at hp
  obtain ⟨L2, r1, r2, r3⟩ := order_rowsG L es order hrows hp
  rw [← r3] at T
  have hs2 : (order.filterMap (es[·]?)).size = es.size := by
    have h := congrArg List.length r1
    rw [Array.length_toList, List.length_map, r2.length_eq] at h
    rw [h, hsl]
  rw [setRelay_eq]
  refine wpAny_bind (wpAny_setState_of ho hd hfits ?_)
  dsimp only
  refine wp_if_neg (by rw [sizeLine_eq]; omega) ?_
  try refine wpAny_bind (wpAny_pure ?_)
  rw [e]
  dsimp only
  refine wpAny_bind ?_
  refine wp_if_neg (by rw [hs2]; simp) ?_
  try refine wpAny_bind (wpAny_pure ?_)
  refine wpAny_pure ?_
  dsimp only
  refine wpAny_storeSet_of ho hd ?_ (by rw [hs2, hsl, sizeLine_eq]; omega)
  have sb : Heap.SameBut a s.heap (s.heap.update a (Obj.putSet (order.filterMap (es[·]?)) t')) := Heap.SameBut.update ..
  have keep : ∀ b o' vs n, s.heap.get? b = some o' → o'.data = .seq vs n → (s.heap.update a (Obj.putSet (order.filterMap (es[·]?)) t')).get? b = some o' := fun b o' vs n e1 e2 => by
    refine (sb.2 b fun z => ?_).trans e1
    subst z
    rw [ho] at e1
    cases e1
    rw [hd] at e2
    cases e2
  refine hQ _ L2 (order.filterMap (es[·]?)) (ep + 1) t' sb ?_ r2
  refine ⟨⟨_, store_at ho hd, ⟨hex.1, hex.2.1, hex.2.2⟩, rfl⟩, r1, T, ?_, fun p hpm => F.stays.stays keep (its p (r2.mem_iff.mp hpm)), by rw [el]; exact ld, ?_, by rw [r2.length_eq]; exact few⟩
  · exact (r2.map (·.2)).nodup_iff.mpr nd
  · rw [r2.length_eq, em]
    exact hn
/-- a thing put in -/
theorem addG (F : InS knd) (R : SetG knd s.heap a L es ep t) {x : Addr} {k : K} (hx : knd.is s.heap k x) (hu : knd.room A) (h4 : L.length + 1 < 64) {Q : Bool → Shared → Prop}
    (hQ : ∀ b h' L' es' ep' t', Heap.SameBut a s.heap h' → SetG knd h' a L' es' ep' t' → (k ∈ L.map (·.2) → L' = L) → (k ∉ L.map (·.2) → L'.Perm ((x, k) :: L)) → Q b { s with heap := h' }) :
    wpAny (model P w) A (setAddHashed a (.ref x) (knd.hash k)) Q E s := by
  obtain ⟨o, ho, hex, hd⟩ := R.ob
  have hsl := R.size
  have hroom := R.room
  unfold setAddHashed
  refine wpAny_holding ?_
  rw [show (100000 : Nat) = 99999 + 1 from rfl, setAddHashedIn_succ]
  refine wpAny_bind (wpAny_setState_of ho hd R.fits ?_)
  dsimp only
  refine wp_if_neg (by simp [byScan, Value.scannable]) ?_
  try refine wpAny_bind (wpAny_pure ?_)
  refine wpAny_bind (searchG_at F R hx hu (fun hm => wpAny_pure (hQ false s.heap L es ep t (Heap.SameBut.refl a s.heap) R (fun _ => rfl) fun z => absurd hm z)) fun N hm hN hb => ?_)
  dsimp only
  refine wpAny_bind (wpAny_setState_of ho hd R.fits ?_)
  dsimp only
  obtain ⟨q1, q2, q3, q4, q5, q6, q7, q8, q9⟩ := R.tab.put hN hb
  obtain ⟨p, hp⟩ : ∃ p, p = SetTable.below t.place (way t.mask (knd.hash k) N) := ⟨_, rfl⟩
  obtain ⟨pt, hpt⟩ : ∃ pt, pt = t.put (way t.mask (knd.hash k) N) := ⟨_, rfl⟩
  rw [← hpt] at q1 q3 q4 q5 q6 q7 q8 q9 ⊢
  rw [← hp] at q1 q2 q3
  obtain ⟨t1, p1⟩ := pt
  dsimp only at q1 q3 q4 q5 q6 q7 q8 q9 ⊢
  subst q1
  have go : ∀ t2 : SetTable, t2.place = t1.place → t2.dummies = t1.dummies → t2.mask = t1.mask → t2.led = t1.led → wpAny (model P w) A (do
      storeSet a (SetTable.insertAt es p1 (knd.hash k, Value.ref x)) t2
      if (!false && t2.tooFull) = true then setRelay a (SetTable.grown (es.size + 1))
      pure true) Q E s := fun t2 u1 u2 u3 u4 => by
    have hin : (SetTable.insertAt es p1 (knd.hash k, Value.ref x)).toList = (L.take p1 ++ (x, k) :: L.drop p1).map fun p => (knd.hash p.2, Value.ref p.1) := by
      rw [SetTable.toList_insertAt, R.rows, List.map_append, List.map_cons, List.map_take, List.map_drop]
    have pm := put_perm L p1 (x, k)
    have hlen : (L.take p1 ++ (x, k) :: L.drop p1).length = L.length + 1 := pm.length_eq
    have hhs : (L.take p1 ++ (x, k) :: L.drop p1).map (fun p => knd.hash p.2) = (L.map fun p => knd.hash p.2).take p1 ++ knd.hash k :: (L.map fun p => knd.hash p.2).drop p1 := by
      rw [List.map_append, List.map_cons, List.map_take, List.map_drop]
    rw [← hhs] at q3
    have nd1 : ((L.take p1 ++ (x, k) :: L.drop p1).map (·.2)).Nodup := by
      refine (pm.map (·.2)).nodup_iff.mpr ?_
      rw [List.map_cons]
      exact List.nodup_cons.mpr ⟨hm, R.nd⟩
    have hes : (SetTable.insertAt es p1 (knd.hash k, Value.ref x)).size = L.length + 1 := by
      have h := congrArg List.length hin
      rwa [Array.length_toList, List.length_map, hlen] at h
    generalize SetTable.insertAt es p1 (knd.hash k, Value.ref x) = es1 at hin hes ⊢
    generalize L.take p1 ++ (x, k) :: L.drop p1 = L1 at pm hlen q3 nd1 hin
    refine wpAny_bind (wpAny_storeSet_of ho hd ?_ (by rw [hes, sizeLine_eq]; omega))
    have sb : Heap.SameBut a s.heap (s.heap.update a (Obj.putSet es1 t2)) := Heap.SameBut.update ..
    have ho1 := store_at (es' := es1) (t' := t2) ho hd
    generalize s.heap.update a (Obj.putSet es1 t2) = h1 at sb ho1 ⊢
    have keep : ∀ b o' vs n, s.heap.get? b = some o' → o'.data = .seq vs n → h1.get? b = some o' := fun b o' vs n e1 e2 => by
      refine (sb.2 b fun z => ?_).trans e1
      subst z
      rw [ho] at e1
      cases e1
      rw [hd] at e2
      cases e2
    have its1 : ∀ p ∈ L1, knd.is h1 p.2 p.1 := fun p hp => by
      rcases List.mem_cons.mp (pm.mem_iff.mp hp) with e | hp
      · rw [e]
        exact F.stays.stays keep hx
      · exact F.stays.stays keep (R.its p hp)
    have tab1 : TabOk t2 (L1.map fun p => knd.hash p.2) := by
      have eS : ∀ j, t2.slot j = t1.slot j := fun j => by
        unfold SetTable.slot
        rw [u1, u2]
      exact ⟨by rw [u1]; exact q3.ris, by rw [u2]; exact q3.dm, by rw [u1]; exact q3.sz, by rw [u3]; exact q3.mok, by rw [u1, u3]; exact q3.bd, by rw [u1, u3]; exact q3.reach⟩
    have fl2 : t2.fill = L.length + 1 := by
      have : t1.fill = (L.map fun p => knd.hash p.2).length + 1 := q9
      rw [List.length_map] at this
      rw [← this]
      unfold SetTable.fill
      rw [u1, u2]
    have ld2 : w.params.followText "set-order" = true ∨ t2.led = true := by rw [u4, q5]; exact R.led
    by_cases hf : t2.tooFull = true
    · first
        | (refine wpAny_bind ?_; refine wp_if_pos (by simp [hf]) ?_)
        | (refine wp_if_pos (by simp [hf]) ?_; refine wpAny_bind ?_)
      have hfull : (L.length + 1) * 5 ≥ t.mask * 3 := by
        have h := hf
        unfold SetTable.tooFull at h
        rw [decide_eq_true_eq, fl2, u3, q4] at h
        exact h
      rw [hsl]
      have hsz1 : t2.place.size = es1.size := by
        have h := tab1.sz
        rw [List.length_map, hlen] at h
        rw [h, hes]
      have cases2 : (t.mask = 7 ∧ L.length = 4) ∨ (t.mask = 31 ∧ L.length = 18) := by
        rcases R.tab.mok with e | e | e
        · left; rw [e] at hfull hroom; exact ⟨e, by omega⟩
        · right; rw [e] at hfull hroom; exact ⟨e, by omega⟩
        · exfalso; rw [e] at hfull; omega
      have go2 : ∀ M, SetTable.sizeAbove (SetTable.grown (L.length + 1)) - 1 = M → MaskOk M → SetTable.sizeAbove (SetTable.grown (L.length + 1)) ≤ 128 → (L.length + 1) * 5 < M * 3 →
          wpAny (model P w) A (setRelay a (SetTable.grown (L.length + 1))) (fun _ s' => wpAny (model P w) A (pure true) Q E s') E { s with heap := h1 } := fun M h1' h2' h3' h4' => by
        refine relayG (s := { s with heap := h1 }) F ho1 ⟨hex.1, hex.2.1, hex.2.2⟩ rfl hin hsz1 tab1.dm (by rw [hes, u3, q4]; rcases cases2 with ⟨e, e2⟩ | ⟨e, e2⟩ <;> omega) nd1 its1 ld2 (by rw [hlen]; exact h4) h1' h2' h3' (by rw [hlen]; exact h4') ?_
        intro h2 L2 es2 ep2 t3 sb2 R2 pm2
        refine wpAny_pure (hQ true h2 L2 es2 ep2 t3 (sb.trans sb2) R2 (fun z => absurd z hm) fun _ => pm2.trans pm)
      rcases cases2 with ⟨_, e2⟩ | ⟨_, e2⟩
      · refine go2 31 (by rw [e2, size_20]) (.inr (.inl rfl)) (by rw [e2, size_20]; decide) (by omega)
      · refine go2 127 (by rw [e2, size_76]) (.inr (.inr rfl)) (by rw [e2, size_76]; decide) (by omega)
    · first
        | refine wp_if_neg (by simp [hf]) ?_
        | (refine wpAny_bind ?_; refine wp_if_neg (by simp [hf]) ?_; refine wpAny_pure ?_)
      refine wpAny_pure (hQ true h1 L1 es1 (ep + 1) t2 sb ⟨⟨_, ho1, ⟨hex.1, hex.2.1, hex.2.2⟩, rfl⟩, hin, tab1, nd1, its1, ld2, ?_, by rw [hlen]; exact h4⟩ (fun z => absurd z hm) fun _ => pm)
      have h := hf
      unfold SetTable.tooFull at h
      rw [decide_eq_true_eq, fl2] at h
      rw [hlen]
      omega
  by_cases hpl : t1.plain = true
  · refine wp_if_pos hpl (wpAny_bind (F.byv hx fun v => ?_))
    cases v with
    | true => exact go t1 rfl rfl rfl rfl
    | false => exact go { t1 with plain := false } rfl rfl rfl rfl
  · exact wp_if_neg hpl (wpAny_bind (wpAny_pure (go t1 rfl rfl rfl rfl)))
/-- what a set has got from the first i things -/
structure GotK (ks : List (Addr × K)) (i : Nat) (L : List (Addr × K)) : Prop where
  sub : ∀ p ∈ L, p ∈ ks.take i
  all : ∀ p ∈ ks.take i, p.2 ∈ L.map (·.2)
  len : L.length ≤ i
theorem GotK.zero (ks : List (Addr × K)) : GotK ks 0 [] := ⟨fun p h => (by cases h), fun p h => (by simp at h), Nat.le_refl _⟩
theorem GotK.same {ks L : List (Addr × K)} {i : Nat} {x : Addr × K} (g : GotK ks i L) (h : ks[i]? = some x) (hm : x.2 ∈ L.map (·.2)) : GotK ks (i + 1) L := by
  refine ⟨fun p hp => ?_, fun p hp => ?_, Nat.le_succ_of_le g.len⟩
  · rw [take_next h]
    exact List.mem_append_left _ (g.sub p hp)
  · rw [take_next h] at hp
    rcases List.mem_append.mp hp with z | z
    · exact g.all p z
    · rw [List.mem_singleton.mp z]; exact hm
theorem GotK.more {ks L L' : List (Addr × K)} {i : Nat} {x : Addr × K} (g : GotK ks i L) (h : ks[i]? = some x) (pm : L'.Perm (x :: L)) : GotK ks (i + 1) L' := by
  refine ⟨fun p hp => ?_, fun p hp => ?_, ?_⟩
  · rw [take_next h]
    rcases List.mem_cons.mp (pm.mem_iff.mp hp) with e | z
    · rw [e]; exact List.mem_append_right _ (List.mem_singleton.mpr rfl)
    · exact List.mem_append_left _ (g.sub p z)
  · rw [(pm.map (·.2)).mem_iff, List.map_cons]
    rw [take_next h] at hp
    rcases List.mem_append.mp hp with z | z
    · exact List.mem_cons_of_mem _ (g.all p z)
    · rw [List.mem_singleton.mp z]; exact List.mem_cons_self
  · rw [pm.length_eq, List.length_cons]
    exact Nat.succ_le_succ g.len
/-- what a set holds behind i of some unlike things: these -/
theorem SetG.keep (F : InS knd) {h h' : Heap} (R : SetG knd h a L es ep t) (ha : ∀ o, h.get? a = some o → h'.get? a = some o) (hk : ∀ b o, h.get? b = some o → h'.get? b = some o) : SetG knd h' a L es ep t := by
  obtain ⟨o, ho, r⟩ := R.ob
  exact ⟨⟨o, ha o ho, r⟩, R.rows, R.tab, R.nd, fun p m => F.stays.stays (fun b o _ _ e _ => hk b o e) (R.its p m), R.led, R.room, R.few⟩
theorem SetG.fresh {h : Heap} (ho : h.get? a = some (emptyS w)) : SetG knd h a [] #[] 0 (.fresh 0 0 (!w.params.followText "set-order")) where
  ob := ⟨_, ho, ⟨rfl, rfl, rfl⟩, rfl⟩
  rows := rfl
  tab := ⟨List.Pairwise.nil, rfl, rfl, .inl rfl, fun x hx => (by cases hx), fun i h j hi => (by simp at hi)⟩
  nd := List.nodup_nil
  its := fun p hp => (by cases hp)
  led := by
    show _ ∨ (!w.params.followText "set-order") = true
    cases w.params.followText "set-order" <;> simp
  room := by
    show 0 * 5 < 7 * 3
    decide
  few := by
    show 0 < 64
    decide
section
variable {R : Result → Shared → Prop} {I : Addr} {fp wr : List Addr} {G : Array GenState → Array GenState → Prop} {n : Nat} {Pv : Nat → Value → Prop} {St : Nat → Shared → Prop}
theorem loopKG (F : InS knd) (W : WalksS P w A.in1 I fp wr G n Pv St) (S : Addr) (hSf : S ∉ fp) (ks : List (Addr × K)) (hn : n = ks.length) (h4 : ks.length < 64) (hval : ∀ i v, Pv i v → ∃ p, ks[i]? = some p ∧ v = .ref p.1)
    (h0 : Heap) (hk : ∀ p ∈ ks, knd.is h0 p.2 p.1) (hS0 : h0.get? S = none) (hw0 : ∀ b ∈ wr, h0.get? b = none) (hu : knd.room A.in1) :
    ∀ (k i : Nat) (s : Shared), n - i = k → i ≤ n → St i s → (∀ b o, h0.get? b = some o → s.heap.get? b = some o) → (∃ L es ep t, SetG knd s.heap S L es ep t ∧ GotK ks i L) →
      (∀ s' L es ep t, Moved (S :: wr) G s s' → SetG knd s'.heap S L es ep t → GotK ks n L → (∀ b o, h0.get? b = some o → s'.heap.get? b = some o) → R (.ok (.ret .none)) s') →
      codeAny (model P w) A (.builtin "set.update.loop" ⟨[.ref S, .ref I], []⟩) R s := by
  have hSw : S ∉ wr := fun h => hSf (W.sub _ h)
  have sub : ∀ b ∈ wr, b ∈ S :: wr := fun b q => List.mem_cons_of_mem _ q
  have keepM : ∀ {s s' : Shared}, Moved wr G s s' → (∀ b o, h0.get? b = some o → s.heap.get? b = some o) → ∀ b o, h0.get? b = some o → s'.heap.get? b = some o := fun hm hkp b o e => hm.heap b o (fun hb => by rw [hw0 b hb] at e; cases e) (hkp b o e)
  have at0 : ∀ {s : Shared}, (∀ b o, h0.get? b = some o → s.heap.get? b = some o) → ∀ p ∈ ks, knd.is s.heap p.2 p.1 := fun kp p m => F.stays.stays (fun b o _ _ e _ => kp b o e) (hk p m)
  have setM : ∀ {s s' : Shared} {L es ep t}, Moved wr G s s' → (∀ b o, h0.get? b = some o → s'.heap.get? b = some o) → (∀ p ∈ L, p ∈ ks) → SetG knd s.heap S L es ep t → SetG knd s'.heap S L es ep t := fun {s s' L es ep t} hm kp hL X => by
    obtain ⟨o, ho, r⟩ := X.ob
    exact ⟨⟨o, hm.heap S o hSw ho, r⟩, X.rows, X.tab, X.nd, fun p m => at0 kp p (hL p m), X.led, X.room, X.few⟩
  intro k
  induction k with
  | zero =>
    intro i s hk' hi st kp ⟨L, es, ep, t, hS, pm⟩ hR
    obtain rfl : i = n := by omega
    refine codeAny_builtin PyProof.Rows.F.entry_set_update_loop (by
      rw [Around.under_plainId PyProof.Rows.F.plain_set_update_loop _]
      refine wpAny_bind (W.done s _ _ st fun s' hm => wpAny_pure ?_)
      exact hR s' L es ep t (hm.mono sub) (setM hm (keepM hm kp) (fun p m => List.mem_of_mem_take (pm.sub p m)) hS) pm (keepM hm kp))
  | succ k ih =>
    intro i s hk' hi st kp ⟨L, es, ep, t, hS, pm⟩ hR
    have hlt : i < n := by omega
    refine codeAny_builtin PyProof.Rows.F.entry_set_update_loop ?_
    rw [Around.under_plainId PyProof.Rows.F.plain_set_update_loop _]
    refine wpAny_bind (W.item i s _ _ hlt st fun v s' hP st' hm => ?_)
    obtain ⟨p, hp, rfl⟩ := hval i v hP
    have kp' := keepM hm kp
    have hS' := setM hm kp' (fun q m => List.mem_of_mem_take (pm.sub q m)) hS
    have hx := at0 kp' p (List.mem_of_getElem? hp)
    have il : i < ks.length := by omega
    show wpAny _ A.in1 (holding [Value.ref p.1] (setAdd S (.ref p.1)) >>= _) _ _ s'
    refine wpAny_bind (wpAny_holding ?_)
    unfold setAdd
    refine wpAny_holding (wpAny_bind (knd.pyHash hu hx (addG (s := { s' with toks := s'.toks + knd.draws p.2 }) F hS' hx hu (by have := pm.len; omega) fun b h' L' es' ep' t' sb hS2 c1 c2 => ?_)))
    have kp2 : ∀ b o, h0.get? b = some o → h'.get? b = some o := fun b o e => (sb.2 b (fun z => by rw [z, hS0] at e; cases e)).trans (kp' b o e)
    refine wpAny_pure ⟨plainId_quiet PyProof.Rows.F.plain_set_update_loop _, ih (i + 1) _ (by omega) hlt (W.frame _ s' _ _ st' (Nat.le_add_right _ _) fun b hb o e => ?_) kp2 ⟨L', es', ep', t', hS2, ?_⟩ fun s'' L2 es2 ep2 t2 hm2 hS3 g2 kp3 => ?_⟩
    · rw [sb.2 b (fun h : b = S => hSf (by rw [← h]; exact hb))]
      exact e
    · rcases Classical.em (p.2 ∈ L.map (·.2)) with c | c
      · rw [c1 c]; exact pm.same hp c
      · exact pm.more hp (c2 c)
    · refine hR s'' L2 es2 ep2 t2 (Moved.trans W.gtrans ((hm.mono sub).then_heap (Nat.le_add_right _ _) fun b o hb e => ?_) hm2) hS3 g2 kp3
      exact (sb.2 b (fun h : b = S => hb (by rw [h]; exact List.mem_cons_self))).trans e
end
theorem initKG (F : InS knd) {l : Addr} {items : Array Value} (ks : List (Addr × K)) (hh : A.handled = none) (hl : s.heap.IsList l items) (hit : items.toList = ks.map fun p => Value.ref p.1) (hk : ∀ p ∈ ks, knd.is s.heap p.2 p.1) (h4 : ks.length < 64) (hu : ∀ B : Around, B.units ≤ A.units + 4 → knd.room B) {Z : Result → Shared → Prop}
    (hZ : ∀ h' tk L es ep t, SetG knd h' s.heap.objs.size L es ep t → GotK ks ks.length L → (∀ b o, s.heap.get? b = some o → h'.get? b = some o) → Z (.ok (.ret .none)) { s with heap := h', toks := tk }) :
    codeAny (model P w) A (.call (.builtin "set.__init__") ⟨[.ref s.heap.objs.size, .ref l], []⟩) Z { s with heap := s.heap.push (emptyS w) } := by
  have hS : (s.heap.push (emptyS w)).get? s.heap.objs.size = some (emptyS w) := Heap.get?_push_size _ rfl
  have hT : Shared.TypeIs { s with heap := s.heap.push (emptyS w) } (.ref s.heap.objs.size) "set" := ⟨_, hS, rfl⟩
  refine codeAny_call_builtin PySem.F.called_set.init.plain PySem.F.entry_set_init (check_set_init_1 hT ?_)
  obtain ⟨ol, hol, hcl, nl, hdl⟩ := hl
  obtain ⟨ocls, odict, odata, oslots⟩ := ol
  simp only at hcl hdl
  subst hcl
  subst hdl
  have hol' : (s.heap.push (emptyS w)).get? l = some { cls := .type "list", dict := odict, data := .seq items nl, slots := oslots } := Heap.get?_push_of_some _ hol
  have k1 := PySem.F.sub_list_set
  have k2 := PySem.F.sub_list_frozenset
  have k3 : (Value.type "list" == Value.type "dict") = false := by decide
  have hl1 : (s.heap.push (emptyS w)).IsList l items := ⟨_, hol', rfl, nl, rfl⟩
  unfold Builtin.«set.__init__» noKeywords Builtin.Frozenset.updateFrom
  generalize hPI : pyIter = PI
  wp_walk
  subst hPI
  refine wpAny_pyIter_list hl1 (wpAny_bind (wpAny_runValue ?_))
  have lt : l < s.heap.objs.size := Heap.lt_size hol
  have zz : (s.heap.push (emptyS w)).objs.size = s.heap.objs.size + 1 := Heap.size_push ..
  have n1 : l ≠ (s.heap.push (emptyS w)).objs.size := by rw [zz]; exact Nat.ne_of_lt (Nat.lt_succ_of_lt lt)
  have n2 : s.heap.objs.size ∉ [(s.heap.push (emptyS w)).objs.size, l] := by
    rw [zz]; simp only [List.mem_cons, List.not_mem_nil, or_false, not_or]
    exact ⟨Nat.ne_of_lt (Nat.lt_succ_self _), Nat.ne_of_gt lt⟩
  have sz : items.size = ks.length := by
    have := congrArg List.length hit
    rwa [Array.length_toList, List.length_map] at this
  have no : ∀ b, s.heap.objs.size ≤ b → s.heap.get? b = none := fun b hb => by
    cases q : s.heap.get? b with
    | none => rfl
    | some o => exact absurd (Nat.lt_of_lt_of_le (Heap.lt_size q) hb) (Nat.lt_irrefl _)
  refine loopKG F ((Walks.list (by simp [hh]) _ l n1 items).toS) s.heap.objs.size n2 ks sz h4 (fun i v hv => ?_) s.heap hk (no _ (Nat.le_refl _)) (fun b hb => no b ?_) (hu _ ?_) (items.size - 0) 0 _ (by omega) (Nat.zero_le _)
    ⟨⟨_, Heap.get?_push_size _ rfl, rfl, rfl⟩, hl1.push _⟩ (fun b o e => Heap.get?_push_of_some _ (Heap.get?_push_of_some _ e)) ⟨[], _, _, _, SetG.fresh (Heap.get?_push_of_some _ hS), GotK.zero ks⟩ fun s' L es ep t hm q pm kp => ?_
  · have q : items.toList[i]? = some v := by rw [Array.getElem?_toList]; exact hv
    rw [hit, List.getElem?_map] at q
    cases hq : ks[i]? with
    | none => rw [hq] at q; cases q
    | some p =>
      rw [hq] at q
      exact ⟨p, rfl, (Option.some.inj q).symm⟩
  · rw [List.mem_singleton.mp hb, zz]
    exact Nat.le_succ _
  · simp [Around.in1]
  obtain ⟨h', g', d', tk', os'⟩ := s'
  obtain rfl : g' = s.gens := hm.gens
  obtain rfl : d' = s.drawn := hm.drawn
  obtain rfl : os' = s.os := hm.os
  show wpAny _ _ _ _ _ _
  rw [sz] at pm
  exact wpAny_pure (wpAny_pure (hZ h' tk' L es ep t q pm kp))
theorem call_setKG (F : InS knd) {l : Addr} {items : Array Value} (ks : List (Addr × K)) {Q : Value → Shared → Prop} (hh : A.handled = none) (hl : s.heap.IsList l items) (hit : items.toList = ks.map fun p => Value.ref p.1) (hk : ∀ p ∈ ks, knd.is s.heap p.2 p.1) (h4 : ks.length < 64) (hu : ∀ B : Around, B.units ≤ A.units + 8 → knd.room B)
    (hQ : ∀ h' tk L es ep t, SetG knd h' s.heap.objs.size L es ep t → GotK ks ks.length L → (∀ b o, s.heap.get? b = some o → h'.get? b = some o) → Q (.ref s.heap.objs.size) { s with heap := h', toks := tk }) :
    wpAny (model P w) A (call (.type "set") [.ref l]) Q E s := by
  obtain ⟨c, tl, hmro⟩ := PySem.F.called_set.mro
  have hmade := PySem.F.called_set.made
  have hsub := PySem.F.called_set.sub
  refine wpAny_call (codeAny_of_tree (wpAny_pure ⟨Code.quiet_builtin _ (by decide +kernel), codeAny_builtin PySem.F.entry_type_call ?_⟩))
  rw [Around.under_plain (weight_type_call_type "set" [.ref l] []) rfl]
  have h1 := PySem.F.called_set.notType
  have h2 := PySem.F.called_set.canCreate
  have hct := PySem.F.typeCall_set_1 (.ref l)
  repeat (any_goals (first | assumption | wp_step))
  refine codeAny_mono (code_set_led1 (.ref l) (E := E) (Q₁ := fun obj s₁ => obj = .ref s.heap.objs.size ∧ s₁ = { s with heap := s.heap.push (emptyS w) }) ⟨rfl, rfl⟩) fun r s₁ hr => ?_
  match r, hr with
  | .error _, hr => exact hr
  | .ok .next, hr => exact hr.elim
  | .ok .brk, hr => exact hr.elim
  | .ok .cont, hr => exact hr.elim
  | .ok (.ret obj), hr =>
    obtain ⟨rfl, rfl⟩ := hr
    have hS : (s.heap.push (emptyS w)).get? s.heap.objs.size = some (emptyS w) := Heap.get?_push_size _ rfl
    have hT : Shared.TypeIs { s with heap := s.heap.push (emptyS w) } (.ref s.heap.objs.size) "set" := ⟨_, hS, rfl⟩
    have hli := PySem.F.called_set.init.lookup
    have hbi := PySem.F.called_set.init.bind (.ref s.heap.objs.size)
    repeat (any_goals (first | assumption | wp_step))
    refine codeAny_mono (initKG (Z := wants (fun r s₂ => r = .none ∧ Q (.ref s.heap.objs.size) s₂) E) F ks (by simp [hh]) hl hit hk h4 (fun B hB => hu B ?_) fun h' tk L es ep t a b c => ⟨rfl, hQ h' tk L es ep t a b c⟩) fun r₂ s₂ hr₂ => ?_
    · refine Nat.le_trans hB ?_
      simp [Around.in1]
    match r₂, hr₂ with
    | .error _, hr₂ => exact hr₂
    | .ok .next, hr₂ => exact hr₂.elim
    | .ok .brk, hr₂ => exact hr₂.elim
    | .ok .cont, hr₂ => exact hr₂.elim
    | .ok (.ret r), hr₂ =>
      obtain ⟨rfl, hq⟩ := hr₂
      repeat (any_goals (first | assumption | wp_step))
theorem initKGT (F : InS knd) {l : Addr} {items : Array Value} (ks : List (Addr × K)) (hh : A.handled = none) (hl : s.heap.IsTuple l items) (hit : items.toList = ks.map fun p => Value.ref p.1) (hk : ∀ p ∈ ks, knd.is s.heap p.2 p.1) (h4 : ks.length < 64) (hu : ∀ B : Around, B.units ≤ A.units + 4 → knd.room B) {Z : Result → Shared → Prop}
    (hZ : ∀ h' tk L es ep t, SetG knd h' s.heap.objs.size L es ep t → GotK ks ks.length L → (∀ b o, s.heap.get? b = some o → h'.get? b = some o) → Z (.ok (.ret .none)) { s with heap := h', toks := tk }) :
    codeAny (model P w) A (.call (.builtin "set.__init__") ⟨[.ref s.heap.objs.size, .ref l], []⟩) Z { s with heap := s.heap.push (emptyS w) } := by
  have hS : (s.heap.push (emptyS w)).get? s.heap.objs.size = some (emptyS w) := Heap.get?_push_size _ rfl
  have hT : Shared.TypeIs { s with heap := s.heap.push (emptyS w) } (.ref s.heap.objs.size) "set" := ⟨_, hS, rfl⟩
  refine codeAny_call_builtin PySem.F.called_set.init.plain PySem.F.entry_set_init (check_set_init_1 hT ?_)
  obtain ⟨ol, hol, hcl, nl, hdl⟩ := hl
  obtain ⟨ocls, odict, odata, oslots⟩ := ol
  simp only at hcl hdl
  subst hcl
  subst hdl
  have hol' : (s.heap.push (emptyS w)).get? l = some { cls := .type "tuple", dict := odict, data := .seq items nl, slots := oslots } := Heap.get?_push_of_some _ hol
  have k1 := PySem.F.sub_tuple_set
  have k2 := PySem.F.sub_tuple_frozenset
  have k3 : (Value.type "tuple" == Value.type "dict") = false := by decide
  have hl1 : (s.heap.push (emptyS w)).IsTuple l items := ⟨_, hol', rfl, nl, rfl⟩
  unfold Builtin.«set.__init__» noKeywords Builtin.Frozenset.updateFrom
  generalize hPI : pyIter = PI
  wp_walk
  subst hPI
  refine wpAny_pyIter_tuple hl1 (wpAny_bind (wpAny_runValue ?_))
  have lt : l < s.heap.objs.size := Heap.lt_size hol
  have zz : (s.heap.push (emptyS w)).objs.size = s.heap.objs.size + 1 := Heap.size_push ..
  have n1 : l ≠ (s.heap.push (emptyS w)).objs.size := by rw [zz]; exact Nat.ne_of_lt (Nat.lt_succ_of_lt lt)
  have n2 : s.heap.objs.size ∉ [(s.heap.push (emptyS w)).objs.size, l] := by
    rw [zz]; simp only [List.mem_cons, List.not_mem_nil, or_false, not_or]
    exact ⟨Nat.ne_of_lt (Nat.lt_succ_self _), Nat.ne_of_gt lt⟩
  have sz : items.size = ks.length := by
    have := congrArg List.length hit
    rwa [Array.length_toList, List.length_map] at this
  have no : ∀ b, s.heap.objs.size ≤ b → s.heap.get? b = none := fun b hb => by
    cases q : s.heap.get? b with
    | none => rfl
    | some o => exact absurd (Nat.lt_of_lt_of_le (Heap.lt_size q) hb) (Nat.lt_irrefl _)
  refine loopKG F ((Walks.tuple (by simp [hh]) _ l n1 items).toS) s.heap.objs.size n2 ks sz h4 (fun i v hv => ?_) s.heap hk (no _ (Nat.le_refl _)) (fun b hb => no b ?_) (hu _ ?_) (items.size - 0) 0 _ (by omega) (Nat.zero_le _)
    ⟨⟨_, Heap.get?_push_size _ rfl, rfl, rfl⟩, hl1.push _⟩ (fun b o e => Heap.get?_push_of_some _ (Heap.get?_push_of_some _ e)) ⟨[], _, _, _, SetG.fresh (Heap.get?_push_of_some _ hS), GotK.zero ks⟩ fun s' L es ep t hm q pm kp => ?_
  · have q : items.toList[i]? = some v := by rw [Array.getElem?_toList]; exact hv
    rw [hit, List.getElem?_map] at q
    cases hq : ks[i]? with
    | none => rw [hq] at q; cases q
    | some p =>
      rw [hq] at q
      exact ⟨p, rfl, (Option.some.inj q).symm⟩
  · rw [List.mem_singleton.mp hb, zz]
    exact Nat.le_succ _
  · simp [Around.in1]
  obtain ⟨h', g', d', tk', os'⟩ := s'
  obtain rfl : g' = s.gens := hm.gens
  obtain rfl : d' = s.drawn := hm.drawn
  obtain rfl : os' = s.os := hm.os
  show wpAny _ _ _ _ _ _
  rw [sz] at pm
  exact wpAny_pure (wpAny_pure (hZ h' tk' L es ep t q pm kp))
theorem call_setKGT (F : InS knd) {l : Addr} {items : Array Value} (ks : List (Addr × K)) {Q : Value → Shared → Prop} (hh : A.handled = none) (hl : s.heap.IsTuple l items) (hit : items.toList = ks.map fun p => Value.ref p.1) (hk : ∀ p ∈ ks, knd.is s.heap p.2 p.1) (h4 : ks.length < 64) (hu : ∀ B : Around, B.units ≤ A.units + 8 → knd.room B)
    (hQ : ∀ h' tk L es ep t, SetG knd h' s.heap.objs.size L es ep t → GotK ks ks.length L → (∀ b o, s.heap.get? b = some o → h'.get? b = some o) → Q (.ref s.heap.objs.size) { s with heap := h', toks := tk }) :
    wpAny (model P w) A (call (.type "set") [.ref l]) Q E s := by
  obtain ⟨c, tl, hmro⟩ := PySem.F.called_set.mro
  have hmade := PySem.F.called_set.made
  have hsub := PySem.F.called_set.sub
  refine wpAny_call (codeAny_of_tree (wpAny_pure ⟨Code.quiet_builtin _ (by decide +kernel), codeAny_builtin PySem.F.entry_type_call ?_⟩))
  rw [Around.under_plain (weight_type_call_type "set" [.ref l] []) rfl]
  have h1 := PySem.F.called_set.notType
  have h2 := PySem.F.called_set.canCreate
  have hct := PySem.F.typeCall_set_1 (.ref l)
  repeat (any_goals (first | assumption | wp_step))
  refine codeAny_mono (code_set_led1 (.ref l) (E := E) (Q₁ := fun obj s₁ => obj = .ref s.heap.objs.size ∧ s₁ = { s with heap := s.heap.push (emptyS w) }) ⟨rfl, rfl⟩) fun r s₁ hr => ?_
  match r, hr with
  | .error _, hr => exact hr
  | .ok .next, hr => exact hr.elim
  | .ok .brk, hr => exact hr.elim
  | .ok .cont, hr => exact hr.elim
  | .ok (.ret obj), hr =>
    obtain ⟨rfl, rfl⟩ := hr
    have hS : (s.heap.push (emptyS w)).get? s.heap.objs.size = some (emptyS w) := Heap.get?_push_size _ rfl
    have hT : Shared.TypeIs { s with heap := s.heap.push (emptyS w) } (.ref s.heap.objs.size) "set" := ⟨_, hS, rfl⟩
    have hli := PySem.F.called_set.init.lookup
    have hbi := PySem.F.called_set.init.bind (.ref s.heap.objs.size)
    repeat (any_goals (first | assumption | wp_step))
    refine codeAny_mono (initKGT (Z := wants (fun r s₂ => r = .none ∧ Q (.ref s.heap.objs.size) s₂) E) F ks (by simp [hh]) hl hit hk h4 (fun B hB => hu B ?_) fun h' tk L es ep t a b c => ⟨rfl, hQ h' tk L es ep t a b c⟩) fun r₂ s₂ hr₂ => ?_
    · refine Nat.le_trans hB ?_
      simp [Around.in1]
    match r₂, hr₂ with
    | .error _, hr₂ => exact hr₂
    | .ok .next, hr₂ => exact hr₂.elim
    | .ok .brk, hr₂ => exact hr₂.elim
    | .ok .cont, hr₂ => exact hr₂.elim
    | .ok (.ret r), hr₂ =>
      obtain ⟨rfl, hq⟩ := hr₂
      repeat (any_goals (first | assumption | wp_step))
end
end L2.Z
set_option Elab.async false
set_option linter.all false
set_option maxRecDepth 100000
set_option maxHeartbeats 3200000
namespace L2.Z
open PySem PySem.Spec PyProof.Rows
theorem setG_n {P : Program} {w : World} {h : Heap} {a : Addr} {L : List (Addr × NestedKey)} {es : Array (Int × Value)} {ep : Nat} {t : SetTable} (R : SetG (nestedKind P w) h a L es ep t) : SetN0 P w h a L := by
  obtain ⟨o, ho, hx, hd⟩ := R.ob
  refine ⟨o, es, ep, t, ho, hx, hd, R.rows, ?_, R.fits, R.tab.ris, R.led⟩
  have h1 := R.size
  have h2 := R.few
  have : scanBound = 4096 := rfl
  omega
def rSetNL (K : Kx) : List V → Hp → VK → Prop := fun xs H Q => ∃ (a : Addr) (L : List (Addr × NestedKey)), xs = [.ref a] ∧ SqL K.K H a (L.map fun p => V.ref p.1) ∧ (∀ p ∈ L, KOk K H p.1 p.2) ∧ L.length < 64 ∧ ∀ p L', GotK L L.length L' → (L'.map (·.2)).Nodup → H p = none → Q (.ref p) (upd H p (SetNO K.P K.w p L'))
def rSetNT (K : Kx) : List V → Hp → VK → Prop := fun xs H Q => ∃ (a : Addr) (L : List (Addr × NestedKey)), xs = [.ref a] ∧ SqT K.K H a (L.map fun p => V.ref p.1) ∧ (∀ p ∈ L, KOk K H p.1 p.2) ∧ L.length < 64 ∧ ∀ p L', GotK L L.length L' → (L'.map (·.2)).Nodup → H p = none → Q (.ref p) (upd H p (SetNO K.P K.w p L'))
def rLenNk (K : Kx) : List V → Hp → VK → Prop := fun xs H Q => ∃ (a : Addr) (L : List (Addr × NestedKey)), xs = [.ref a] ∧ H a = some (SetNO K.P K.w a L) ∧ Q (.int (L.length : Nat)) H
section
variable {X : Cx} {pins : List (Addr × Obj)} {σ : St} {H : Hp} {s : Shared} {g : G}
theorem cr_setNL (hc : X.calm = true) (hu : X.A.units + 103 < cLine) : CallR X (.type "set") (rSetNL X.kx) := by
  intro pins s σ H xs us Q I rs ⟨a, L, e, h1, hk, h4, q⟩
  subst e
  obtain ⟨u, rfl, ru⟩ := vals1 rs
  obtain rfl : u = Value.ref a := ru
  obtain ⟨its, rv, pl, z⟩ := I.list h1
  have hit := vals_refsN rv
  refine call_setKG nest_in L (I.ok.hd hc) pl.isList (by rw [← hit]) (fun p m => (hk p m).is I) h4 (fun B hB => ?_) fun h' tk L' es ep t R pm k => ⟨.ref _, upd H s.heap.objs.size (SetNO X.prog X.w s.heap.objs.size L'), I.laid (t' := tk) k (Nat.le_refl _) (setN_new (setG_n R)), rfl, q _ _ pm R.nd (I.hok.fresh (Nat.le_refl _))⟩
  show B.units + 8 < cLine
  have : X.A.in1.units ≤ X.A.units + 1 := by first | exact Nat.le_refl _ | (simp [Around.in1])
  first
    | omega
    | (simp [Around.in1] at hB; omega)
theorem cr_setNT (hc : X.calm = true) (hu : X.A.units + 103 < cLine) : CallR X (.type "set") (rSetNT X.kx) := by
  intro pins s σ H xs us Q I rs ⟨a, L, e, h1, hk, h4, q⟩
  subst e
  obtain ⟨u, rfl, ru⟩ := vals1 rs
  obtain rfl : u = Value.ref a := ru
  obtain ⟨its, rv, pl, z⟩ := I.tuple h1
  have hit := vals_refsN rv
  refine call_setKGT nest_in L (I.ok.hd hc) pl (by rw [← hit]) (fun p m => (hk p m).is I) h4 (fun B hB => ?_) fun h' tk L' es ep t R pm k => ⟨.ref _, upd H s.heap.objs.size (SetNO X.prog X.w s.heap.objs.size L'), I.laid (t' := tk) k (Nat.le_refl _) (setN_new (setG_n R)), rfl, q _ _ pm R.nd (I.hok.fresh (Nat.le_refl _))⟩
  show B.units + 8 < cLine
  have : X.A.in1.units ≤ X.A.units + 1 := by first | exact Nat.le_refl _ | (simp [Around.in1])
  first
    | omega
    | (simp [Around.in1] at hB; omega)
theorem cr_lenNk : CallR X (.builtin "len") (rLenNk X.kx) := by
  intro pins s σ H xs us Q I rs ⟨a, L, e, h1, q⟩
  subst e
  obtain ⟨u, rfl, ru⟩ := vals1 rs
  obtain rfl : u = Value.ref a := ru
  obtain ⟨o, es, ep, t, ho, hx, hd, g1, hb, hf, hr, hl⟩ := (I.hok a _ h1).1
  have hl2 := congrArg List.length g1
  rw [List.length_map, Array.length_toList] at hl2
  exact call_len_set ho hx hd hf (by unfold scanBound at hb; omega) ⟨.int (L.length : Nat), H, I.tok _, ⟨_, by rw [hl2]⟩, q⟩
end
/-- of things told twice the last -/
def ddT : List T → List T
  | [] => []
  | x :: l => if (ddT l).any (fun y => decide (nkey y = nkey x)) = true then ddT l else x :: ddT l
theorem ddT_sub : ∀ {l : List T} {x : T}, x ∈ ddT l → x ∈ l
  | y :: l, x, h => by
    rw [ddT] at h
    split at h
    · exact List.mem_cons_of_mem _ (ddT_sub h)
    · rcases List.mem_cons.mp h with e | m
      · rw [e]; exact List.mem_cons_self ..
      · exact List.mem_cons_of_mem _ (ddT_sub m)
theorem ddT_all : ∀ {l : List T} {x : T}, x ∈ l → ∃ y ∈ ddT l, nkey y = nkey x
  | y :: l, x, h => by
    rw [ddT]
    split
    · rename_i c
      rcases List.mem_cons.mp h with e | m
      · obtain ⟨z, mz, ez⟩ := List.any_eq_true.mp c
        exact ⟨z, mz, by rw [e]; exact of_decide_eq_true ez⟩
      · exact ddT_all m
    · rcases List.mem_cons.mp h with e | m
      · exact ⟨y, List.mem_cons_self .., by rw [e]⟩
      · obtain ⟨z, mz, ez⟩ := ddT_all m
        exact ⟨z, List.mem_cons_of_mem _ mz, ez⟩
theorem ddT_nd : ∀ l : List T, ((ddT l).map nkey).Nodup
  | [] => List.nodup_nil
  | y :: l => by
    rw [ddT]
    split
    · exact ddT_nd l
    · rename_i c
      rw [List.map_cons]
      refine List.nodup_cons.mpr ⟨fun m => c ?_, ddT_nd l⟩
      obtain ⟨z, mz, ez⟩ := List.mem_map.mp m
      exact List.any_eq_true.mpr ⟨z, mz, decide_eq_true ez⟩
theorem got_len {L L' : List (Addr × NestedKey)} {ts : List T} (g : GotK L L.length L') (nd : (L'.map (·.2)).Nodup) (e : (L.map fun p => some p.2) = ts.map nkey) : L'.length = (ddT ts).length := by
  have h1 : ((L'.map (·.2)).map some).Nodup := by
    refine List.nodup_iff_pairwise_ne.mpr (List.pairwise_map.mpr ?_)
    exact (List.nodup_iff_pairwise_ne.mp nd).imp fun ne z => ne (Option.some.inj z)
  have h2 := ddT_nd ts
  have p : ((L'.map (·.2)).map some).Perm ((ddT ts).map nkey) := by
    refine (List.perm_ext_iff_of_nodup h1 h2).mpr fun k => ⟨fun m => ?_, fun m => ?_⟩
    · obtain ⟨k0, m0, rfl⟩ := List.mem_map.mp m
      obtain ⟨q, mq, rfl⟩ := List.mem_map.mp m0
      have m1 : some q.2 ∈ ts.map nkey := by
        rw [← e]
        exact List.mem_map.mpr ⟨q, List.mem_of_mem_take (g.sub q mq), rfl⟩
      obtain ⟨x, mx, ex⟩ := List.mem_map.mp m1
      obtain ⟨y, my, ey⟩ := ddT_all mx
      exact List.mem_map.mpr ⟨y, my, by rw [ey, ex]⟩
    · obtain ⟨y, my, ey⟩ := List.mem_map.mp m
      have m1 : k ∈ ts.map nkey := by
        rw [← ey]
        exact List.mem_map.mpr ⟨y, ddT_sub my, rfl⟩
      rw [← e] at m1
      obtain ⟨q, mq, rfl⟩ := List.mem_map.mp m1
      have := g.all q (by rw [List.take_length]; exact mq)
      exact List.mem_map.mpr ⟨q.2, this, rfl⟩
  have := p.length_eq
  simpa using this
theorem got_perm {L L' : List (Addr × NestedKey)} (g : GotK L L.length L') (nd' : (L'.map (·.2)).Nodup) (nd : (L.map (·.2)).Nodup) : L'.Perm L := by
  have n0 : ∀ {l : List (Addr × NestedKey)}, (l.map (·.2)).Nodup → l.Nodup := fun h => List.Pairwise.of_map _ (fun _ _ hne e => hne (congrArg _ e)) h
  refine (List.perm_ext_iff_of_nodup (n0 nd') (n0 nd)).mpr fun q => ⟨fun m => List.mem_of_mem_take (g.sub q m), fun m => ?_⟩
  obtain ⟨r, mr, er⟩ := List.mem_map.mp (g.all q (by rw [List.take_length]; exact m))
  have mr2 : r ∈ L := List.mem_of_mem_take (g.sub r mr)
  have : r = q := by
    clear g mr nd' L'
    induction L with
    | nil => cases m
    | cons x L ih =>
      rw [List.map_cons] at nd
      obtain ⟨n1, n2⟩ := List.nodup_cons.mp nd
      rcases List.mem_cons.mp m with e | m
      · rcases List.mem_cons.mp mr2 with e2 | m2
        · rw [e, e2]
        · exact absurd (List.mem_map.mpr ⟨r, m2, er.trans (congrArg _ e)⟩) n1
      · rcases List.mem_cons.mp mr2 with e2 | m2
        · exact absurd (List.mem_map.mpr ⟨q, m, (er.symm.trans (congrArg _ e2))⟩) n1
        · exact ih n2 m m2
  rw [← this]
  exact mr
def fLenSetN (f : Ea) : Ev := fun s => (f s).bind fun ts s1 => if (decide (ts.length < 64) && ts.all nkOk) = true then .ok (.int ((ddT ts).length : Nat)) s1 else .no
def aSortSetM (f : Ea) : Ea := fun s => (f s).bind fun ts s1 => if (decide (ts.length < 64) && ts.all nkOk && strictT ts && (srtTy ts || srtMx ts)) = true then .ok (sortT ts) s1 else .no
section
variable {X : Cx} {pos p pos2 p2 : Pos} {e : Expr} {fa : Ea}
theorem fe_lenSetN (hc : X.calm = true) (hu : X.A.units + 103 < cLine) (hg : Gl X "len") (hm : X.mg "len" = none) (hg2 : Gl X "set") (hm2 : X.mg "set" = none) (hq : FQ X true e fa)
    (he : starEach (e :: []) X.env = (false, eval e X.env) :: starEach [] X.env := by rfl) (he2 : starEach (.Call (.Name "set" p2) [e] [] pos2 :: []) X.env = (false, eval (.Call (.Name "set" p2) [e] [] pos2) X.env) :: starEach [] X.env := by rfl) :
    FE X (.Call (.Name "len" p) [.Call (.Name "set" p2) [e] [] pos2] [] pos) (fLenSetN fa) :=
  pe_mono (pe_callB cr_lenNk hg hm (by decide +kernel) (pa_cons (pe_callTy (cr_setNL hc hu) hg2 hm2 (by decide +kernel) (fa_q hq he) (by decide) (by decide) he (by rfl)) pa_nil he2) (by decide) (by decide) he2 (by rfl)) fun σ H Q ⟨b, g, s, v, s', m, e, q⟩ => by
    obtain ⟨ts, s1, e1, e⟩ := bind_ok e
    split at e
    · rename_i c
      cases e
      simp only [Bool.and_eq_true, decide_eq_true_eq] at c
      obtain ⟨c4, cn⟩ := c
      refine ⟨b, g, s, ts, _, m, e1, fun g' H' a vs m' t' hs hr => ?_⟩
      obtain ⟨L, rfl, hk, ek⟩ := keysN hr cn
      have lL : L.length = ts.length := by
        have := congrArg List.length ek
        rwa [List.length_map, List.length_map] at this
      refine ⟨a, L, rfl, hs, hk, by omega, fun p2 L' gL nL hp2 => ⟨p2, L', rfl, upd_same, ?_⟩⟩
      rw [got_len gL nL ek]
      have x1 : Ext H' (upd H' p2 (SetNO X.prog X.w p2 L')) := Ext.new hp2
      exact q g' _ _ (m'.ext x1) (t'.trans (Step.ext x1)) (.int _)
    · cases e
theorem ff_sortSetM (hc : X.calm = true) (hu : X.A.units + 103 < cLine) (hg : Gl X "sorted") (hm : X.mg "sorted" = none) (hg2 : Gl X "set") (hm2 : X.mg "set" = none) (hq : FQ X false e fa)
    (he : starEach (e :: []) X.env = (false, eval e X.env) :: starEach [] X.env := by rfl) (he2 : starEach (.Call (.Name "set" p2) [e] [] pos2 :: []) X.env = (false, eval (.Call (.Name "set" p2) [e] [] pos2) X.env) :: starEach [] X.env := by rfl) :
    FF X (.Call (.Name "sorted" p) [.Call (.Name "set" p2) [e] [] pos2] [] pos) (aSortSetM fa) :=
  pe_mono (pe_callB (cr_sortSN hc hu) hg hm (by decide +kernel) (pa_cons (pe_callTy (cr_setNT hc hu) hg2 hm2 (by decide +kernel) (fa_q hq he) (by decide) (by decide) he (by rfl)) pa_nil he2) (by decide) (by decide) he2 (by rfl)) fun σ H Q ⟨b, g, s, v, s', m, e, q⟩ => by
    obtain ⟨ts, s1, e1, e⟩ := bind_ok e
    split at e
    · rename_i c
      cases e
      simp only [Bool.and_eq_true, decide_eq_true_eq] at c
      obtain ⟨⟨⟨c4, cn⟩, cs⟩, co⟩ := c
      refine ⟨b, g, s, ts, _, m, e1, fun g' H' a vs m' t' hs hr => ?_⟩
      obtain ⟨L, rfl, hk, ek⟩ := keysN hr cn
      have pp : ∀ x ∈ ts, pureD (toD x) = true := fun x mx => by
        rcases Bool.or_eq_true_iff.mp co with c | c
        · exact (srtTy_iff c).2.2.1 _ (List.mem_map_of_mem mx)
        · exact (srtMx_iff c).2.2.1 _ (List.mem_map_of_mem mx)
      obtain ⟨nd, inj⟩ := strictT_inj cs pp
      have lL : L.length = ts.length := by
        have := congrArg List.length ek
        rwa [List.length_map, List.length_map] at this
      have hs2 : SqT X.K H' a (L.map fun p => V.ref p.1) := (show Sq X.kx false H' a _ from hs).1
      refine ⟨a, L, rfl, hs2, hk, by omega, fun p2 L' gL nL hp2 => ?_⟩
      have pL := got_perm gL nL (nd_keys nd cn ek)
      have x1 : Ext H' (upd H' p2 (SetNO X.prog X.w p2 L')) := Ext.new hp2
      have m2 := m'.ext x1
      have t2 : Step g' H' g' (upd H' p2 (SetNO X.prog X.w p2 L')) := Step.ext x1
      obtain ⟨us, pu, ru⟩ := repL_perm (pL.symm.map fun p => V.ref p.1) (hr.step t2)
      have ss : ∀ ws : List T, ws.Perm us → sortT ws = sortT us := fun ws pw => (sortT_permTn (pw.trans pu) (fun x mx y my => inj x ((pw.trans pu).mem_iff.mp mx) y ((pw.trans pu).mem_iff.mp my))).trans (sortT_permTn pu fun x mx y my => inj x (pu.mem_iff.mp mx) y (pu.mem_iff.mp my)).symm
      refine ⟨g', p2, L', us, rfl, upd_same, ru, fun ws pw => ?_, ss, fun Vs p r hp => ?_⟩
      · obtain ⟨s1, s2⟩ := srt_perm (pw.trans pu)
        rw [s1, s2]
        exact co
      · rw [sortT_permTn pu fun x mx y my => inj x (pu.mem_iff.mp mx) y (pu.mem_iff.mp my)] at r
        exact q _ _ Vs p (m2.hide hp trivial) (t'.trans (t2.trans (step_new hp))) (r.step (step_new hp)) (m2.hidn' hp)
    · cases e
theorem x_aSortSetM {s : S} : aSortSetM fa s = (fa s).bind fun ts s1 => if (decide (ts.length < 64) && ts.all nkOk && strictT ts && (srtTy ts || srtMx ts)) = true then .ok (sortT ts) s1 else .no := rfl
theorem x_fLenSetN {s : S} : fLenSetN fa s = (fa s).bind fun ts s1 => if (decide (ts.length < 64) && ts.all nkOk) = true then .ok (.int ((ddT ts).length : Nat)) s1 else .no := rfl
end
end L2.Z
set_option Elab.async false
set_option linter.all false
set_option maxRecDepth 100000
set_option maxHeartbeats 4000000
namespace L2.Z.D
open PySem PySem.Spec PyProof.Rows
structure Wd (P : Program) (w : World) (K : PySem.W.Frag) (mg : Str → Option Value) (base : Heap) where
  c_LETTERS : ∃ t, mg "LETTERS" = some (.str "abcdefghijklmnopqrstuvwxyz" t)
  c_MOST_BOXES : ∃ t, mg "MOST_BOXES" = some (.int 8 t)
  c_MOST_LETTERS : ∃ t, mg "MOST_LETTERS" = some (.int 8 t)
  c_MOST_MOVES : ∃ t, mg "MOST_MOVES" = some (.int 3 t)
  c_MOST_SLOTS : ∃ t, mg "MOST_SLOTS" = some (.int 4 t)
  c_MOST_SPACES : ∃ t, mg "MOST_SPACES" = some (.int 3 t)
  c_SIDES : ∃ a, mg "SIDES" = some (.ref a) ∧ (∀ H, SqT K H a [.str "down", .str "up"]) ∧ ∃ o, K.lookup a = some o ∧ o.dict = none
  b_all : mg "all" = none
  b_bool : mg "bool" = none
  b_enumerate : mg "enumerate" = none
  b_int : mg "int" = none
  b_isinstance : mg "isinstance" = none
  b_len : mg "len" = none
  b_list : mg "list" = none
  b_min : mg "min" = none
  b_range : mg "range" = none
  b_repr : mg "repr" = none
  b_set : mg "set" = none
  b_sorted : mg "sorted" = none
  b_str : mg "str" = none
  b_tuple : mg "tuple" = none
  b_zip : mg "zip" = none
  a_is_whole : Addr
  f_is_whole : FuncData
  m_is_whole : mg "is_whole" = some (.ref a_is_whole)
  D_is_whole : FunD K "is_whole" "is_whole" (defArgs (top 8)) (defBody (top 8)) (defScope (top 8)) [] [] a_is_whole f_is_whole
  k_is_whole : PySem.W.keepIn K (.ref a_is_whole) = true
  B_is_whole : Binds K f_is_whole ["thing", "least", "most"] []
  a_is_name : Addr
  f_is_name : FuncData
  m_is_name : mg "is_name" = some (.ref a_is_name)
  D_is_name : FunD K "is_name" "is_name" (defArgs (top 9)) (defBody (top 9)) (defScope (top 9)) [] [] a_is_name f_is_name
  k_is_name : PySem.W.keepIn K (.ref a_is_name) = true
  B_is_name : Binds K f_is_name ["thing"] []
  a_own_tuple : Addr
  f_own_tuple : FuncData
  m_own_tuple : mg "own_tuple" = some (.ref a_own_tuple)
  D_own_tuple : FunD K "own_tuple" "own_tuple" (defArgs (top 16)) (defBody (top 16)) (defScope (top 16)) [] [] a_own_tuple f_own_tuple
  k_own_tuple : PySem.W.keepIn K (.ref a_own_tuple) = true
  B_own_tuple : Binds K f_own_tuple ["thing", "least", "most"] []
  a_own_rising : Addr
  f_own_rising : FuncData
  m_own_rising : mg "own_rising" = some (.ref a_own_rising)
  D_own_rising : FunD K "own_rising" "own_rising" (defArgs (top 17)) (defBody (top 17)) (defScope (top 17)) [] [] a_own_rising f_own_rising
  k_own_rising : PySem.W.keepIn K (.ref a_own_rising) = true
  B_own_rising : Binds K f_own_rising ["names"] []
  a_own_slot : Addr
  f_own_slot : FuncData
  m_own_slot : mg "own_slot" = some (.ref a_own_slot)
  D_own_slot : FunD K "own_slot" "own_slot" (defArgs (top 18)) (defBody (top 18)) (defScope (top 18)) [] [] a_own_slot f_own_slot
  k_own_slot : PySem.W.keepIn K (.ref a_own_slot) = true
  B_own_slot : Binds K f_own_slot ["spaces", "thing"] []
  a_own_order : Addr
  f_own_order : FuncData
  m_own_order : mg "own_order" = some (.ref a_own_order)
  D_own_order : FunD K "own_order" "own_order" (defArgs (top 19)) (defBody (top 19)) (defScope (top 19)) [] [] a_own_order f_own_order
  k_own_order : PySem.W.keepIn K (.ref a_own_order) = true
  B_own_order : Binds K f_own_order ["held", "thing"] []
  a_own_move : Addr
  f_own_move : FuncData
  m_own_move : mg "own_move" = some (.ref a_own_move)
  D_own_move : FunD K "own_move" "own_move" (defArgs (top 20)) (defBody (top 20)) (defScope (top 20)) [] [] a_own_move f_own_move
  k_own_move : PySem.W.keepIn K (.ref a_own_move) = true
  B_own_move : Binds K f_own_move ["held", "thing"] []
  a_own_box : Addr
  f_own_box : FuncData
  m_own_box : mg "own_box" = some (.ref a_own_box)
  D_own_box : FunD K "own_box" "own_box" (defArgs (top 21)) (defBody (top 21)) (defScope (top 21)) [] [] a_own_box f_own_box
  k_own_box : PySem.W.keepIn K (.ref a_own_box) = true
  B_own_box : Binds K f_own_box ["spaces", "thing"] []
  a_own_gear : Addr
  f_own_gear : FuncData
  m_own_gear : mg "own_gear" = some (.ref a_own_gear)
  D_own_gear : FunD K "own_gear" "own_gear" (defArgs (top 22)) (defBody (top 22)) (defScope (top 22)) [] [] a_own_gear f_own_gear
  k_own_gear : PySem.W.keepIn K (.ref a_own_gear) = true
  B_own_gear : Binds K f_own_gear ["thing"] []
  a_need_gear : Addr
  f_need_gear : FuncData
  m_need_gear : mg "need_gear" = some (.ref a_need_gear)
  D_need_gear : FunD K "need_gear" "need_gear" (defArgs (top 23)) (defBody (top 23)) (defScope (top 23)) [] [] a_need_gear f_need_gear
  k_need_gear : PySem.W.keepIn K (.ref a_need_gear) = true
  B_need_gear : Binds K f_need_gear ["gear"] []
  a_own_box_of : Addr
  f_own_box_of : FuncData
  m_own_box_of : mg "own_box_of" = some (.ref a_own_box_of)
  D_own_box_of : FunD K "own_box_of" "own_box_of" (defArgs (top 24)) (defBody (top 24)) (defScope (top 24)) [] [] a_own_box_of f_own_box_of
  k_own_box_of : PySem.W.keepIn K (.ref a_own_box_of) = true
  B_own_box_of : Binds K f_own_box_of ["gear", "box"] []
  a_own_slots : Addr
  f_own_slots : FuncData
  m_own_slots : mg "own_slots" = some (.ref a_own_slots)
  D_own_slots : FunD K "own_slots" "own_slots" (defArgs (top 25)) (defBody (top 25)) (defScope (top 25)) [] [] a_own_slots f_own_slots
  k_own_slots : PySem.W.keepIn K (.ref a_own_slots) = true
  B_own_slots : Binds K f_own_slots ["gear", "box"] []
  a_moved : Addr
  f_moved : FuncData
  m_moved : mg "moved" = some (.ref a_moved)
  D_moved : FunD K "moved" "moved" (defArgs (top 26)) (defBody (top 26)) (defScope (top 26)) [] [] a_moved f_moved
  k_moved : PySem.W.keepIn K (.ref a_moved) = true
  B_moved : Binds K f_moved ["row", "order"] []
  a_own_group : Addr
  f_own_group : FuncData
  m_own_group : mg "own_group" = some (.ref a_own_group)
  D_own_group : FunD K "own_group" "own_group" (defArgs (top 27)) (defBody (top 27)) (defScope (top 27)) [] [] a_own_group f_own_group
  k_own_group : PySem.W.keepIn K (.ref a_own_group) = true
  B_own_group : Binds K f_own_group ["gear", "box"] []
  a_slots : Addr
  f_slots : FuncData
  m_slots : mg "slots" = some (.ref a_slots)
  D_slots : FunD K "slots" "slots" (defArgs (top 28)) (defBody (top 28)) (defScope (top 28)) [] [] a_slots f_slots
  k_slots : PySem.W.keepIn K (.ref a_slots) = true
  B_slots : Binds K f_slots ["gear", "box"] []
  a_group : Addr
  f_group : FuncData
  m_group : mg "group" = some (.ref a_group)
  D_group : FunD K "group" "group" (defArgs (top 29)) (defBody (top 29)) (defScope (top 29)) [] [] a_group f_group
  k_group : PySem.W.keepIn K (.ref a_group) = true
  B_group : Binds K f_group ["gear", "box"] []
  a__law_start : Addr
  f__law_start : FuncData
  m__law_start : mg "_law_start" = some (.ref a__law_start)
  D__law_start : FunD K "_law_start" "_law_start" (defArgs (top 31)) (defBody (top 31)) (defScope (top 31)) [] [] a__law_start f__law_start
  k__law_start : PySem.W.keepIn K (.ref a__law_start) = true
  B__law_start : Binds K f__law_start ["_law_script"] []
  a__law_draw : Addr
  f__law_draw : FuncData
  m__law_draw : mg "_law_draw" = some (.ref a__law_draw)
  D__law_draw : FunD K "_law_draw" "_law_draw" (defArgs (top 32)) (defBody (top 32)) (defScope (top 32)) [] [] a__law_draw f__law_draw
  k__law_draw : PySem.W.keepIn K (.ref a__law_draw) = true
  B__law_draw : Binds K f__law_draw ["_law_d", "_law_many"] []
  a__law_pick : Addr
  f__law_pick : FuncData
  m__law_pick : mg "_law_pick" = some (.ref a__law_pick)
  D__law_pick : FunD K "_law_pick" "_law_pick" (defArgs (top 33)) (defBody (top 33)) (defScope (top 33)) [] [] a__law_pick f__law_pick
  k__law_pick : PySem.W.keepIn K (.ref a__law_pick) = true
  B__law_pick : Binds K f__law_pick ["_law_d", "_law_some"] []
  a__law_names : Addr
  f__law_names : FuncData
  m__law_names : mg "_law_names" = some (.ref a__law_names)
  D__law_names : FunD K "_law_names" "_law_names" (defArgs (top 34)) (defBody (top 34)) (defScope (top 34)) [] [] a__law_names f__law_names
  k__law_names : PySem.W.keepIn K (.ref a__law_names) = true
  B__law_names : Binds K f__law_names ["_law_d", "_law_many"] []
  a__law_order : Addr
  f__law_order : FuncData
  m__law_order : mg "_law_order" = some (.ref a__law_order)
  D__law_order : FunD K "_law_order" "_law_order" (defArgs (top 35)) (defBody (top 35)) (defScope (top 35)) [] [] a__law_order f__law_order
  k__law_order : PySem.W.keepIn K (.ref a__law_order) = true
  B__law_order : Binds K f__law_order ["_law_d", "_law_held"] []
  a__law_gear : Addr
  f__law_gear : FuncData
  m__law_gear : mg "_law_gear" = some (.ref a__law_gear)
  D__law_gear : FunD K "_law_gear" "_law_gear" (defArgs (top 36)) (defBody (top 36)) (defScope (top 36)) [] [] a__law_gear f__law_gear
  k__law_gear : PySem.W.keepIn K (.ref a__law_gear) = true
  B__law_gear : Binds K f__law_gear ["_law_d"] []
  a__law_back : Addr
  f__law_back : FuncData
  m__law_back : mg "_law_back" = some (.ref a__law_back)
  D__law_back : FunD K "_law_back" "_law_back" (defArgs (top 37)) (defBody (top 37)) (defScope (top 37)) [] [] a__law_back f__law_back
  k__law_back : PySem.W.keepIn K (.ref a__law_back) = true
  B__law_back : Binds K f__law_back ["_law_path"] []
  a__law_all : Addr
  f__law_all : FuncData
  m__law_all : mg "_law_all" = some (.ref a__law_all)
  D__law_all : FunD K "_law_all" "_law_all" (defArgs (top 38)) (defBody (top 38)) (defScope (top 38)) [] [] a__law_all f__law_all
  k__law_all : PySem.W.keepIn K (.ref a__law_all) = true
  B__law_all : Binds K f__law_all ["_law_held"] []
  a__law_things : Addr
  f__law_things : FuncData
  m__law_things : mg "_law_things" = some (.ref a__law_things)
  D__law_things : FunD K "_law_things" "_law_things" (defArgs (top 39)) (defBody (top 39)) (defScope (top 39)) [] [] a__law_things f__law_things
  k__law_things : PySem.W.keepIn K (.ref a__law_things) = true
  B__law_things : Binds K f__law_things ["_law_d", "_law_many"] []
  a__law_moved_right : Addr
  f__law_moved_right : FuncData
  m__law_moved_right : mg "_law_moved_right" = some (.ref a__law_moved_right)
  D__law_moved_right : FunD K "_law_moved_right" "_law_moved_right" (defArgs (top 40)) (defBody (top 40)) (defScope (top 40)) [] [] a__law_moved_right f__law_moved_right
  k__law_moved_right : PySem.W.keepIn K (.ref a__law_moved_right) = true
  B__law_moved_right : Binds K f__law_moved_right ["_law_d", "_law_held", "_law_own"] []
  a__law_after : Addr
  f__law_after : FuncData
  m__law_after : mg "_law_after" = some (.ref a__law_after)
  D__law_after : FunD K "_law_after" "_law_after" (defArgs (top 41)) (defBody (top 41)) (defScope (top 41)) [] [] a__law_after f__law_after
  k__law_after : PySem.W.keepIn K (.ref a__law_after) = true
  B__law_after : Binds K f__law_after ["_law_path", "_law_step"] []
  a__law_closed : Addr
  f__law_closed : FuncData
  m__law_closed : mg "_law_closed" = some (.ref a__law_closed)
  D__law_closed : FunD K "_law_closed" "_law_closed" (defArgs (top 42)) (defBody (top 42)) (defScope (top 42)) [] [] a__law_closed f__law_closed
  k__law_closed : PySem.W.keepIn K (.ref a__law_closed) = true
  B__law_closed : Binds K f__law_closed ["_law_d", "_law_held", "_law_own"] []
  a__law_with : Addr
  f__law_with : FuncData
  m__law_with : mg "_law_with" = some (.ref a__law_with)
  D__law_with : FunD K "_law_with" "_law_with" (defArgs (top 43)) (defBody (top 43)) (defScope (top 43)) [] [] a__law_with f__law_with
  k__law_with : PySem.W.keepIn K (.ref a__law_with) = true
  B__law_with : Binds K f__law_with ["_law_gear_so", "_law_at", "_law_moves"] []
  a__law_box_right : Addr
  f__law_box_right : FuncData
  m__law_box_right : mg "_law_box_right" = some (.ref a__law_box_right)
  D__law_box_right : FunD K "_law_box_right" "_law_box_right" (defArgs (top 44)) (defBody (top 44)) (defScope (top 44)) [] [] a__law_box_right f__law_box_right
  k__law_box_right : PySem.W.keepIn K (.ref a__law_box_right) = true
  B__law_box_right : Binds K f__law_box_right ["_law_d", "_law_gear_so", "_law_at"] []
  a_law : Addr
  f_law : FuncData
  m_law : mg "law" = some (.ref a_law)
  D_law : FunD K "law" "law" (defArgs (top 45)) (defBody (top 45)) (defScope (top 45)) [] [] a_law f_law
  k_law : PySem.W.keepIn K (.ref a_law) = true
  B_law : Binds K f_law ["_law_script"] []
variable {P : Program} {w : World} {K : PySem.W.Frag} {mg : Str → Option Value} {base : Heap}
theorem KP_moved_row_order (W : Wd P w K mg base) : KwP W.f_moved ["row", "order"] ["row", "order"] [0, 1] := kwp_of W.D_moved fun _ _ _ _ _ _ ws hl => match ws, hl with | [_, _], _ => rfl
abbrev N_is_whole : List Str := ["thing", "least", "most"]
def v_is_whole : Sv := (sRet (fAnd (fIsi "int" (fVar 0)) (fAnd (fNot (fIsi "bool" (fVar 0))) (fChain opLe opLe (fVar 1) (fVar 0) (fVar 2)))))
def F_is_whole : Fd := mkF 3 3 v_is_whole
theorem len_is_whole : LenF (["thing", "least", "most"] : List Str).length F_is_whole := fun ts st v s h => mkF_len ts st v s h
theorem Sc_is_whole : FnScope N_is_whole ["thing", "least", "most"] (defScope (top 8)) := ⟨rfl, rfl, rfl, by decide +kernel, rfl, by decide +kernel, by decide +kernel⟩
theorem G_is_whole (W : Wd P w K mg base) : FnG P w K mg base 1 W.a_is_whole W.f_is_whole ["thing", "least", "most"] F_is_whole := fn_ok W.D_is_whole Sc_is_whole fun cdv A outer s H E hgd rm => (fss_one (fs_ret (fe_and (fe_isi (by rfl) W.b_isinstance (by rfl) W.b_int (by decide +kernel) (fe_var 0)) (fe_and (fe_not (fe_isi (by rfl) W.b_isinstance (by rfl) W.b_bool (by decide +kernel) (fe_var 0))) (fe_one (fe_chain oz_le oz_le (fe_var 1) (fe_var 0) (fe_var 2)))))))
abbrev N_is_name : List Str := ["thing", "sign"]
def v_is_name : Sv := (sSeq (sIf (tOrZ (tNotZ (tE (fIsi "str" (fVar 0)))) (tNotZ (tE (fChain opLe opLe (fC (.int 1)) (fCl clLen (aCons (fVar 0) aNil)) (fC (.int 8)))))) (sRet (fC (.bl false))) sNx) (sRet (fAll (aLc (iStrZ (fVar 0)) (pName 1) tTrue (fBin opIn (fVar 1) (fC (.str ("abcdefghijklmnopqrstuvwxyz" : Str)))) [1]))))
def F_is_name : Fd := mkF 1 2 v_is_name
theorem len_is_name : LenF (["thing"] : List Str).length F_is_name := fun ts st v s h => mkF_len ts st v s h
theorem Sc_is_name : FnScope N_is_name ["thing"] (defScope (top 9)) := ⟨rfl, rfl, rfl, by decide +kernel, rfl, by decide +kernel, by decide +kernel⟩
theorem G_is_name (W : Wd P w K mg base) : FnG P w K mg base 1 W.a_is_name W.f_is_name ["thing"] F_is_name := fn_ok W.D_is_name Sc_is_name fun cdv A outer s H E hgd rm => (fss_cons (fs_if (ft_w (fw_or (ft_not (ft_val (fe_isi (by rfl) W.b_isinstance (by rfl) W.b_str (by decide +kernel) (fe_var 0)))) (fw_or1 (ft_not (ft_chain oz_le oz_le fe_int (fe_callB cz_len (by rfl) W.b_len (by decide +kernel) (fa_cons (fe_var 0) fa_nil)) (fe_globI (by rfl) (W.c_MOST_LETTERS).choose_spec)))))) (fss_one (fs_ret fe_bl)) fss_nil) (fss_one (fs_ret (fe_all rfl (by rfl) W.b_all (fq_ff (ff_lc (own := [(("sign" : Str), 1)]) rfl Sc_is_name.nd (fi_str (fe_var 0)) (blkOk_by (by kernel_rfl)) (fun _ _ _ _ _ => (fg_name (i := 1) Sc_is_name.nd)) (fun _ _ _ _ _ => fts_nil) (fun _ _ _ _ _ => (fe_cmp (oz_in (room_u rm)) (fe_var 1) (fe_globS (by rfl) (W.c_LETTERS).choose_spec)))))))))
abbrev N_own_tuple : List Str := ["thing", "least", "most"]
def v_own_tuple : Sv := (sRet (fAnd (fIsi "tuple" (fVar 0)) (fChain opLe opLe (fVar 1) (fCl clLen (aCons (fVar 0) aNil)) (fVar 2))))
def F_own_tuple : Fd := mkF 3 3 v_own_tuple
theorem len_own_tuple : LenF (["thing", "least", "most"] : List Str).length F_own_tuple := fun ts st v s h => mkF_len ts st v s h
theorem Sc_own_tuple : FnScope N_own_tuple ["thing", "least", "most"] (defScope (top 16)) := ⟨rfl, rfl, rfl, by decide +kernel, rfl, by decide +kernel, by decide +kernel⟩
theorem G_own_tuple (W : Wd P w K mg base) : FnG P w K mg base 1 W.a_own_tuple W.f_own_tuple ["thing", "least", "most"] F_own_tuple := fn_ok W.D_own_tuple Sc_own_tuple fun cdv A outer s H E hgd rm => (fss_one (fs_ret (fe_and (fe_isi (by rfl) W.b_isinstance (by rfl) W.b_tuple (by decide +kernel) (fe_var 0)) (fe_one (fe_chain oz_le oz_le (fe_var 1) (fe_callB cz_len (by rfl) W.b_len (by decide +kernel) (fa_cons (fe_var 0) fa_nil)) (fe_var 2))))))
abbrev N_own_rising : List Str := ["names", "one", "other"]
def v_own_rising : Sv := (sRet (fAll (aLc (iZipZ (aCons (fVar 0) (aCons (fSlA (fVar 0) (oOf (fC (.int 1))) oNo) aNil))) (pTup 2 (psCons (pName 1) (psCons (pName 2) psNil))) tTrue (fBin opLt (fVar 1) (fVar 2)) [1, 2])))
def F_own_rising : Fd := mkF 1 3 v_own_rising
theorem len_own_rising : LenF (["names"] : List Str).length F_own_rising := fun ts st v s h => mkF_len ts st v s h
theorem Sc_own_rising : FnScope N_own_rising ["names"] (defScope (top 17)) := ⟨rfl, rfl, rfl, by decide +kernel, rfl, by decide +kernel, by decide +kernel⟩
theorem G_own_rising (W : Wd P w K mg base) : FnG P w K mg base 1 W.a_own_rising W.f_own_rising ["names"] F_own_rising := fn_ok W.D_own_rising Sc_own_rising fun cdv A outer s H E hgd rm => (fss_one (fs_ret (fe_all rfl (by rfl) W.b_all (fq_ff (ff_lc (own := [(("one" : Str), 1), (("other" : Str), 2)]) rfl Sc_own_rising.nd (fi_zip (by rfl) W.b_zip (fa_cons (fe_var 0) (fa_cons (fe_slA (fe_var 0) (fo_of fe_int) fo_no) fa_nil))) (blkOk_by (by kernel_rfl)) (fun _ _ _ _ _ => (fg_tup rfl (fgs_cons (fg_name (i := 1) Sc_own_rising.nd) (fgs_cons (fg_name (i := 2) Sc_own_rising.nd) fgs_nil)))) (fun _ _ _ _ _ => fts_nil) (fun _ _ _ _ _ => (fe_cmp oz_lt (fe_var 1) (fe_var 2))))))))
abbrev N_own_slot : List Str := ["spaces", "thing", "part"]
def v_own_slot : Sv := (sSeq (sIf (tOrZ (tNotZ (tE (fVal (fCall F_own_tuple (aCons (fVar 1) (aCons (fC (.int 2)) (aCons (fC (.int 2)) aNil))))))) (tNotZ (tE (fAll (aLc (iTp (fVar 1)) (pName 2) tTrue (fIsi "str" (fVar 2)) [2]))))) (sRet (fC (.bl false))) sNx) (sRet (fAnd (fBin opIn (fBin opIx (fVar 1) (fC (.int 0))) (fVar 0)) (fBin opIn (fBin opIx (fVar 1) (fC (.int 1))) (fC (.tup [.str ("down" : Str), .str ("up" : Str)]))))))
def F_own_slot : Fd := mkF 2 3 v_own_slot
theorem len_own_slot : LenF (["spaces", "thing"] : List Str).length F_own_slot := fun ts st v s h => mkF_len ts st v s h
theorem Sc_own_slot : FnScope N_own_slot ["spaces", "thing"] (defScope (top 18)) := ⟨rfl, rfl, rfl, by decide +kernel, rfl, by decide +kernel, by decide +kernel⟩
theorem G_own_slot (W : Wd P w K mg base) : FnG P w K mg base 2 W.a_own_slot W.f_own_slot ["spaces", "thing"] F_own_slot := fn_ok W.D_own_slot Sc_own_slot fun cdv A outer s H E hgd rm => (fss_cons (fs_if (ft_w (fw_or (ft_not (ft_val (fe_fn (fe_call ((G_own_tuple W).mono (by decide)) (len_own_tuple) hgd rm (by rfl) W.m_own_tuple W.k_own_tuple W.B_own_tuple (fa_cons (fe_var 1) (fa_cons fe_int (fa_cons fe_int fa_nil))))))) (fw_or1 (ft_not (ft_val (fe_all rfl (by rfl) W.b_all (fq_ff (ff_lc (own := [(("part" : Str), 2)]) rfl Sc_own_slot.nd (fi_tup (fe_var 1)) (blkOk_by (by kernel_rfl)) (fun _ _ _ _ _ => (fg_name (i := 2) Sc_own_slot.nd)) (fun _ _ _ _ _ => fts_nil) (fun _ _ _ _ _ => (fe_isi (by rfl) W.b_isinstance (by rfl) W.b_str (by decide +kernel) (fe_var 2))))))))))) (fss_one (fs_ret fe_bl)) fss_nil) (fss_one (fs_ret (fe_and (fe_cmp (oz_in (room_u rm)) (fe_ix (fe_var 1) fe_int) (fe_var 0)) (fe_one (fe_cmp (oz_in (room_u rm)) (fe_ix (fe_var 1) fe_int) (fe_globT (by rfl) (W.c_SIDES).choose_spec.1 (W.c_SIDES).choose_spec.2 (fun g H => .cons (.str _) (.cons (.str _) (.nil))))))))))
abbrev N_own_order : List Str := ["held", "thing", "k", "slot"]
def v_own_order : Sv := (sSeq (sIf (tOrZ (tNotZ (tE (fVal (fCall F_own_tuple (aCons (fVar 1) (aCons (fCl clLen (aCons (fVar 0) aNil)) (aCons (fCl clLen (aCons (fVar 0) aNil)) aNil))))))) (tNotZ (tE (fAll (aLc (iTp (fVar 1)) (pName 2) tTrue (fVal (fCall F_is_whole (aCons (fVar 2) (aCons (fC (.int 0)) (aCons (fBin opSub (fCl clLen (aCons (fVar 0) aNil)) (fC (.int 1))) aNil))))) [2]))))) (sRet (fC (.bl false))) sNx) (sRet (fAnd (fBin opEq (fLenSc (iTp (fVar 1)) (pName 2) tTrue (fVar 2) [2]) (fCl clLen (aCons (fVar 0) aNil))) (fAll (aLc (iZipSZ (aCons (fVar 1) (aCons (fVar 0) aNil))) (pTup 2 (psCons (pName 2) (psCons (pName 3) psNil))) tTrue (fBin opEq (fBin opIx (fVar 0) (fVar 2)) (fVar 3)) [2, 3])))))
def F_own_order : Fd := mkF 2 4 v_own_order
theorem len_own_order : LenF (["held", "thing"] : List Str).length F_own_order := fun ts st v s h => mkF_len ts st v s h
theorem Sc_own_order : FnScope N_own_order ["held", "thing"] (defScope (top 19)) := ⟨rfl, rfl, rfl, by decide +kernel, rfl, by decide +kernel, by decide +kernel⟩
theorem G_own_order (W : Wd P w K mg base) : FnG P w K mg base 2 W.a_own_order W.f_own_order ["held", "thing"] F_own_order := fn_ok W.D_own_order Sc_own_order fun cdv A outer s H E hgd rm => (fss_cons (fs_if (ft_w (fw_or (ft_not (ft_val (fe_fn (fe_call ((G_own_tuple W).mono (by decide)) (len_own_tuple) hgd rm (by rfl) W.m_own_tuple W.k_own_tuple W.B_own_tuple (fa_cons (fe_var 1) (fa_cons (fe_callB cz_len (by rfl) W.b_len (by decide +kernel) (fa_cons (fe_var 0) fa_nil)) (fa_cons (fe_callB cz_len (by rfl) W.b_len (by decide +kernel) (fa_cons (fe_var 0) fa_nil)) fa_nil))))))) (fw_or1 (ft_not (ft_val (fe_all rfl (by rfl) W.b_all (fq_ff (ff_lc (own := [(("k" : Str), 2)]) rfl Sc_own_order.nd (fi_tup (fe_var 1)) (blkOk_by (by kernel_rfl)) (fun _ _ _ _ _ => (fg_name (i := 2) Sc_own_order.nd)) (fun _ _ _ _ _ => fts_nil) (fun _ _ _ _ _ => (fe_fn (fe_call ((G_is_whole W).mono (by decide)) (len_is_whole) hgd rm (by rfl) W.m_is_whole W.k_is_whole W.B_is_whole (fa_cons (fe_var 2) (fa_cons fe_int (fa_cons (fe_bin oz_sub (fe_callB cz_len (by rfl) W.b_len (by decide +kernel) (fa_cons (fe_var 0) fa_nil)) fe_int) fa_nil)))))))))))))) (fss_one (fs_ret fe_bl)) fss_nil) (fss_one (fs_ret (fe_and (fe_cmp (oz_eq (room_u1 rm)) (fe_lenSc (by rfl) W.b_len (own := [(("k" : Str), 2)]) rfl Sc_own_order.nd (fi_tup (fe_var 1)) (blkOk_by (by kernel_rfl)) (fun _ _ _ _ _ => (fg_name (i := 2) Sc_own_order.nd)) (fun _ _ _ _ _ => fts_nil) (fun _ _ _ _ _ => (fe_var 2))) (fe_callB cz_len (by rfl) W.b_len (by decide +kernel) (fa_cons (fe_var 0) fa_nil))) (fe_one (fe_all rfl (by rfl) W.b_all (fq_ff (ff_lc (own := [(("k" : Str), 2), (("slot" : Str), 3)]) rfl Sc_own_order.nd (fi_zipS (by rfl) W.b_zip (fa_cons (fe_var 1) (fa_cons (fe_var 0) fa_nil))) (blkOk_by (by kernel_rfl)) (fun _ _ _ _ _ => (fg_tup rfl (fgs_cons (fg_name (i := 2) Sc_own_order.nd) (fgs_cons (fg_name (i := 3) Sc_own_order.nd) fgs_nil)))) (fun _ _ _ _ _ => fts_nil) (fun _ _ _ _ _ => (fe_cmp (oz_eq (room_u1 rm)) (fe_ix (fe_var 0) (fe_var 2)) (fe_var 3)))))))))))
abbrev N_own_move : List Str := ["held", "thing"]
def v_own_move : Sv := (sSeq (sIf (tOrZ (tNotZ (tE (fVal (fCall F_own_tuple (aCons (fVar 1) (aCons (fC (.int 2)) (aCons (fC (.int 2)) aNil))))))) (tNotZ (tE (fVal (fCall F_own_order (aCons (fVar 0) (aCons (fBin opIx (fVar 1) (fC (.int 0))) aNil))))))) (sRet (fC (.bl false))) sNx) (sRet (fAnd (fVal (fCall F_is_whole (aCons (fBin opIx (fVar 1) (fC (.int 1))) (aCons (fUn opNeg (fC (.int 1))) (aCons (fC (.int 1)) aNil))))) (fBin opNe (fBin opIx (fVar 1) (fC (.int 1))) (fC (.int 0))))))
def F_own_move : Fd := mkF 2 2 v_own_move
theorem len_own_move : LenF (["held", "thing"] : List Str).length F_own_move := fun ts st v s h => mkF_len ts st v s h
theorem Sc_own_move : FnScope N_own_move ["held", "thing"] (defScope (top 20)) := ⟨rfl, rfl, rfl, by decide +kernel, rfl, by decide +kernel, by decide +kernel⟩
theorem G_own_move (W : Wd P w K mg base) : FnG P w K mg base 3 W.a_own_move W.f_own_move ["held", "thing"] F_own_move := fn_ok W.D_own_move Sc_own_move fun cdv A outer s H E hgd rm => (fss_cons (fs_if (ft_w (fw_or (ft_not (ft_val (fe_fn (fe_call ((G_own_tuple W).mono (by decide)) (len_own_tuple) hgd rm (by rfl) W.m_own_tuple W.k_own_tuple W.B_own_tuple (fa_cons (fe_var 1) (fa_cons fe_int (fa_cons fe_int fa_nil))))))) (fw_or1 (ft_not (ft_val (fe_fn (fe_call ((G_own_order W).mono (by decide)) (len_own_order) hgd rm (by rfl) W.m_own_order W.k_own_order W.B_own_order (fa_cons (fe_var 0) (fa_cons (fe_ix (fe_var 1) fe_int) fa_nil))))))))) (fss_one (fs_ret fe_bl)) fss_nil) (fss_one (fs_ret (fe_and (fe_fn (fe_call ((G_is_whole W).mono (by decide)) (len_is_whole) hgd rm (by rfl) W.m_is_whole W.k_is_whole W.B_is_whole (fa_cons (fe_ix (fe_var 1) fe_int) (fa_cons (fe_un uz_neg fe_int) (fa_cons fe_int fa_nil))))) (fe_one (fe_cmp (oz_ne (room_u1 rm)) (fe_ix (fe_var 1) fe_int) fe_int))))))
abbrev N_own_box : List Str := ["spaces", "thing", "name", "held", "moves", "move", "slot"]
def v_own_box : Sv := (sSeq (sIf (tOrZ (tNotZ (tE (fVal (fCall F_own_tuple (aCons (fVar 1) (aCons (fC (.int 3)) (aCons (fC (.int 3)) aNil))))))) (tNotZ (tE (fVal (fCall F_is_name (aCons (fBin opIx (fVar 1) (fC (.int 0))) aNil)))))) (sRet (fC (.bl false))) sNx) (sSeq (sAsg (pTup 3 (psCons (pName 2) (psCons (pName 3) (psCons (pName 4) psNil)))) (fVar 1)) (sSeq (sIf (tOrZ (tNotZ (tE (fVal (fCall F_own_tuple (aCons (fVar 3) (aCons (fC (.int 0)) (aCons (fC (.int 4)) aNil))))))) (tNotZ (tE (fAll (aLc (iTp (fVar 3)) (pName 6) tTrue (fVal (fCall F_own_slot (aCons (fVar 0) (aCons (fVar 6) aNil)))) [6]))))) (sRet (fC (.bl false))) sNx) (sRet (fAnd (fVal (fCall F_own_tuple (aCons (fVar 4) (aCons (fC (.int 0)) (aCons (fC (.int 3)) aNil))))) (fAll (aLc (iTp (fVar 4)) (pName 5) tTrue (fVal (fCall F_own_move (aCons (fVar 3) (aCons (fVar 5) aNil)))) [5])))))))
def F_own_box : Fd := mkF 2 7 v_own_box
theorem len_own_box : LenF (["spaces", "thing"] : List Str).length F_own_box := fun ts st v s h => mkF_len ts st v s h
theorem Sc_own_box : FnScope N_own_box ["spaces", "thing"] (defScope (top 21)) := ⟨rfl, rfl, rfl, by decide +kernel, rfl, by decide +kernel, by decide +kernel⟩
theorem G_own_box (W : Wd P w K mg base) : FnG P w K mg base 4 W.a_own_box W.f_own_box ["spaces", "thing"] F_own_box := fn_ok W.D_own_box Sc_own_box fun cdv A outer s H E hgd rm => (fss_cons (fs_if (ft_w (fw_or (ft_not (ft_val (fe_fn (fe_call ((G_own_tuple W).mono (by decide)) (len_own_tuple) hgd rm (by rfl) W.m_own_tuple W.k_own_tuple W.B_own_tuple (fa_cons (fe_var 1) (fa_cons fe_int (fa_cons fe_int fa_nil))))))) (fw_or1 (ft_not (ft_val (fe_fn (fe_call ((G_is_name W).mono (by decide)) (len_is_name) hgd rm (by rfl) W.m_is_name W.k_is_name W.B_is_name (fa_cons (fe_ix (fe_var 1) fe_int) fa_nil)))))))) (fss_one (fs_ret fe_bl)) fss_nil) (fss_cons (fs_asg (fe_var 1) (fg_tup rfl (fgs_cons (fg_name (i := 2) Sc_own_box.nd) (fgs_cons (fg_name (i := 3) Sc_own_box.nd) (fgs_cons (fg_name (i := 4) Sc_own_box.nd) fgs_nil))))) (fss_cons (fs_if (ft_w (fw_or (ft_not (ft_val (fe_fn (fe_call ((G_own_tuple W).mono (by decide)) (len_own_tuple) hgd rm (by rfl) W.m_own_tuple W.k_own_tuple W.B_own_tuple (fa_cons (fe_var 3) (fa_cons fe_int (fa_cons (fe_globI (by rfl) (W.c_MOST_SLOTS).choose_spec) fa_nil))))))) (fw_or1 (ft_not (ft_val (fe_all rfl (by rfl) W.b_all (fq_ff (ff_lc (own := [(("slot" : Str), 6)]) rfl Sc_own_box.nd (fi_tup (fe_var 3)) (blkOk_by (by kernel_rfl)) (fun _ _ _ _ _ => (fg_name (i := 6) Sc_own_box.nd)) (fun _ _ _ _ _ => fts_nil) (fun _ _ _ _ _ => (fe_fn (fe_call ((G_own_slot W).mono (by decide)) (len_own_slot) hgd rm (by rfl) W.m_own_slot W.k_own_slot W.B_own_slot (fa_cons (fe_var 0) (fa_cons (fe_var 6) fa_nil))))))))))))) (fss_one (fs_ret fe_bl)) fss_nil) (fss_one (fs_ret (fe_and (fe_fn (fe_call ((G_own_tuple W).mono (by decide)) (len_own_tuple) hgd rm (by rfl) W.m_own_tuple W.k_own_tuple W.B_own_tuple (fa_cons (fe_var 4) (fa_cons fe_int (fa_cons (fe_globI (by rfl) (W.c_MOST_MOVES).choose_spec) fa_nil))))) (fe_one (fe_all rfl (by rfl) W.b_all (fq_ff (ff_lc (own := [(("move" : Str), 5)]) rfl Sc_own_box.nd (fi_tup (fe_var 4)) (blkOk_by (by kernel_rfl)) (fun _ _ _ _ _ => (fg_name (i := 5) Sc_own_box.nd)) (fun _ _ _ _ _ => fts_nil) (fun _ _ _ _ _ => (fe_fn (fe_call ((G_own_move W).mono (by decide)) (len_own_move) hgd rm (by rfl) W.m_own_move W.k_own_move W.B_own_move (fa_cons (fe_var 3) (fa_cons (fe_var 5) fa_nil)))))))))))))))
abbrev N_own_gear : List Str := ["thing", "spaces", "boxes", "box", "name"]
def v_own_gear : Sv := (sSeq (sIf (tNotZ (tE (fVal (fCall F_own_tuple (aCons (fVar 0) (aCons (fC (.int 2)) (aCons (fC (.int 2)) aNil))))))) (sRet (fC (.bl false))) sNx) (sSeq (sAsg (pTup 2 (psCons (pName 1) (psCons (pName 2) psNil))) (fVar 0)) (sSeq (sIf (tOrZ (tNotZ (tE (fVal (fCall F_own_tuple (aCons (fVar 1) (aCons (fC (.int 1)) (aCons (fC (.int 3)) aNil))))))) (tOrZ (tNotZ (tE (fAll (aLc (iTp (fVar 1)) (pName 4) tTrue (fVal (fCall F_is_name (aCons (fVar 4) aNil))) [4])))) (tNotZ (tE (fVal (fCall F_own_rising (aCons (fVar 1) aNil))))))) (sRet (fC (.bl false))) sNx) (sSeq (sIf (tOrZ (tNotZ (tE (fVal (fCall F_own_tuple (aCons (fVar 2) (aCons (fC (.int 0)) (aCons (fC (.int 8)) aNil))))))) (tNotZ (tE (fAll (aLc (iTp (fVar 2)) (pName 3) tTrue (fVal (fCall F_own_box (aCons (fVar 1) (aCons (fVar 3) aNil)))) [3]))))) (sRet (fC (.bl false))) sNx) (sRetN (fCall F_own_rising (aCons (fLst (aLc (iTp (fVar 2)) (pName 3) tTrue (fBin opIx (fVar 3) (fC (.int 0))) [3])) aNil)))))))
def F_own_gear : Fd := mkF 1 5 v_own_gear
theorem len_own_gear : LenF (["thing"] : List Str).length F_own_gear := fun ts st v s h => mkF_len ts st v s h
theorem Sc_own_gear : FnScope N_own_gear ["thing"] (defScope (top 22)) := ⟨rfl, rfl, rfl, by decide +kernel, rfl, by decide +kernel, by decide +kernel⟩
theorem G_own_gear (W : Wd P w K mg base) : FnG P w K mg base 5 W.a_own_gear W.f_own_gear ["thing"] F_own_gear := fn_ok W.D_own_gear Sc_own_gear fun cdv A outer s H E hgd rm => (fss_cons (fs_if (ft_not (ft_val (fe_fn (fe_call ((G_own_tuple W).mono (by decide)) (len_own_tuple) hgd rm (by rfl) W.m_own_tuple W.k_own_tuple W.B_own_tuple (fa_cons (fe_var 0) (fa_cons fe_int (fa_cons fe_int fa_nil))))))) (fss_one (fs_ret fe_bl)) fss_nil) (fss_cons (fs_asg (fe_var 0) (fg_tup rfl (fgs_cons (fg_name (i := 1) Sc_own_gear.nd) (fgs_cons (fg_name (i := 2) Sc_own_gear.nd) fgs_nil)))) (fss_cons (fs_if (ft_w (fw_or (ft_not (ft_val (fe_fn (fe_call ((G_own_tuple W).mono (by decide)) (len_own_tuple) hgd rm (by rfl) W.m_own_tuple W.k_own_tuple W.B_own_tuple (fa_cons (fe_var 1) (fa_cons fe_int (fa_cons (fe_globI (by rfl) (W.c_MOST_SPACES).choose_spec) fa_nil))))))) (fw_or (ft_not (ft_val (fe_all rfl (by rfl) W.b_all (fq_ff (ff_lc (own := [(("name" : Str), 4)]) rfl Sc_own_gear.nd (fi_tup (fe_var 1)) (blkOk_by (by kernel_rfl)) (fun _ _ _ _ _ => (fg_name (i := 4) Sc_own_gear.nd)) (fun _ _ _ _ _ => fts_nil) (fun _ _ _ _ _ => (fe_fn (fe_call ((G_is_name W).mono (by decide)) (len_is_name) hgd rm (by rfl) W.m_is_name W.k_is_name W.B_is_name (fa_cons (fe_var 4) fa_nil))))))))) (fw_or1 (ft_not (ft_val (fe_fn (fe_call ((G_own_rising W).mono (by decide)) (len_own_rising) hgd rm (by rfl) W.m_own_rising W.k_own_rising W.B_own_rising (fa_cons (fe_var 1) fa_nil))))))))) (fss_one (fs_ret fe_bl)) fss_nil) (fss_cons (fs_if (ft_w (fw_or (ft_not (ft_val (fe_fn (fe_call ((G_own_tuple W).mono (by decide)) (len_own_tuple) hgd rm (by rfl) W.m_own_tuple W.k_own_tuple W.B_own_tuple (fa_cons (fe_var 2) (fa_cons fe_int (fa_cons (fe_globI (by rfl) (W.c_MOST_BOXES).choose_spec) fa_nil))))))) (fw_or1 (ft_not (ft_val (fe_all rfl (by rfl) W.b_all (fq_ff (ff_lc (own := [(("box" : Str), 3)]) rfl Sc_own_gear.nd (fi_tup (fe_var 2)) (blkOk_by (by kernel_rfl)) (fun _ _ _ _ _ => (fg_name (i := 3) Sc_own_gear.nd)) (fun _ _ _ _ _ => fts_nil) (fun _ _ _ _ _ => (fe_fn (fe_call ((G_own_box W).mono (by decide)) (len_own_box) hgd rm (by rfl) W.m_own_box W.k_own_box W.B_own_box (fa_cons (fe_var 1) (fa_cons (fe_var 3) fa_nil))))))))))))) (fss_one (fs_ret fe_bl)) fss_nil) (fss_one (fs_retN (fe_call ((G_own_rising W).mono (by decide)) (len_own_rising) hgd rm (by rfl) W.m_own_rising W.k_own_rising W.B_own_rising (fa_cons (fe_of_ff (ff_lc (own := [(("box" : Str), 3)]) rfl Sc_own_gear.nd (fi_tup (fe_var 2)) (blkOk_by (by kernel_rfl)) (fun _ _ _ _ _ => (fg_name (i := 3) Sc_own_gear.nd)) (fun _ _ _ _ _ => fts_nil) (fun _ _ _ _ _ => (fe_ix (fe_var 3) fe_int)))) fa_nil))))))))
abbrev N_need_gear : List Str := ["gear"]
def v_need_gear : Sv := (sIf (tNotZ (tE (fVal (fCall F_own_gear (aCons (fVar 0) aNil))))) sStuck sNx)
def F_need_gear : Fd := mkF 1 1 v_need_gear
theorem len_need_gear : LenF (["gear"] : List Str).length F_need_gear := fun ts st v s h => mkF_len ts st v s h
theorem Sc_need_gear : FnScope N_need_gear ["gear"] (defScope (top 23)) := ⟨rfl, rfl, rfl, by decide +kernel, rfl, by decide +kernel, by decide +kernel⟩
theorem G_need_gear (W : Wd P w K mg base) : FnG P w K mg base 6 W.a_need_gear W.f_need_gear ["gear"] F_need_gear := fn_ok W.D_need_gear Sc_need_gear fun cdv A outer s H E hgd rm => (fss_one (fs_if (ft_not (ft_val (fe_fn (fe_call ((G_own_gear W).mono (by decide)) (len_own_gear) hgd rm (by rfl) W.m_own_gear W.k_own_gear W.B_own_gear (fa_cons (fe_var 0) fa_nil))))) (fss_one fs_never) fss_nil))
abbrev N_own_box_of : List Str := ["gear", "box", "own"]
def v_own_box_of : Sv := (sSeq (sFor (iTp (fBin opIx (fVar 0) (fC (.int 1)))) (pName 2) (sIf (tAndZ (tE (fIsi "str" (fVar 1))) (tE (fBin opEq (fBin opIx (fVar 2) (fC (.int 0))) (fVar 1)))) (sRet (fVar 2)) sNx)) sStuck)
def F_own_box_of : Fd := mkF 2 3 v_own_box_of
theorem len_own_box_of : LenF (["gear", "box"] : List Str).length F_own_box_of := fun ts st v s h => mkF_len ts st v s h
theorem Sc_own_box_of : FnScope N_own_box_of ["gear", "box"] (defScope (top 24)) := ⟨rfl, rfl, rfl, by decide +kernel, rfl, by decide +kernel, by decide +kernel⟩
theorem G_own_box_of (W : Wd P w K mg base) : FnG P w K mg base 1 W.a_own_box_of W.f_own_box_of ["gear", "box"] F_own_box_of := fn_ok W.D_own_box_of Sc_own_box_of fun cdv A outer s H E hgd rm => (fss_cons (fs_for PassesOwn.never rfl (fi_tup (fe_ix (fe_var 0) fe_int)) (fg_name (i := 2) Sc_own_box_of.nd) (fss_one (fs_if (ft_w (fw_and (ft_val (fe_isi (by rfl) W.b_isinstance (by rfl) W.b_str (by decide +kernel) (fe_var 1))) (fw_and1 (ft_cmp (oz_eq (room_u1 rm)) (fe_ix (fe_var 2) fe_int) (fe_var 1))))) (fss_one (fs_ret (fe_var 2))) fss_nil))) (fss_one fs_never))
abbrev N_own_slots : List Str := ["gear", "box"]
def v_own_slots : Sv := (sRet (fBin opIx (fVal (fCall F_own_box_of (aCons (fVar 0) (aCons (fVar 1) aNil)))) (fC (.int 1))))
def F_own_slots : Fd := mkF 2 2 v_own_slots
theorem len_own_slots : LenF (["gear", "box"] : List Str).length F_own_slots := fun ts st v s h => mkF_len ts st v s h
theorem Sc_own_slots : FnScope N_own_slots ["gear", "box"] (defScope (top 25)) := ⟨rfl, rfl, rfl, by decide +kernel, rfl, by decide +kernel, by decide +kernel⟩
theorem G_own_slots (W : Wd P w K mg base) : FnG P w K mg base 2 W.a_own_slots W.f_own_slots ["gear", "box"] F_own_slots := fn_ok W.D_own_slots Sc_own_slots fun cdv A outer s H E hgd rm => (fss_one (fs_ret (fe_ix (fe_fn (fe_call ((G_own_box_of W).mono (by decide)) (len_own_box_of) hgd rm (by rfl) W.m_own_box_of W.k_own_box_of W.B_own_box_of (fa_cons (fe_var 0) (fa_cons (fe_var 1) fa_nil)))) fe_int)))
abbrev N_moved : List Str := ["row", "order", "k"]
def v_moved : Sv := (sRet (fTupQ (aLc (iTp (fVar 1)) (pName 2) tTrue (fBin opIx (fVar 0) (fVar 2)) [2])))
def F_moved : Fd := mkF 2 3 v_moved
theorem len_moved : LenF (["row", "order"] : List Str).length F_moved := fun ts st v s h => mkF_len ts st v s h
theorem Sc_moved : FnScope N_moved ["row", "order"] (defScope (top 26)) := ⟨rfl, rfl, rfl, by decide +kernel, rfl, by decide +kernel, by decide +kernel⟩
theorem G_moved (W : Wd P w K mg base) : FnG P w K mg base 1 W.a_moved W.f_moved ["row", "order"] F_moved := fn_ok W.D_moved Sc_moved fun cdv A outer s H E hgd rm => (fss_one (fs_ret (fe_tupQ (by rfl) W.b_tuple (fq_ff (ff_lc (own := [(("k" : Str), 2)]) rfl Sc_moved.nd (fi_tup (fe_var 1)) (blkOk_by (by kernel_rfl)) (fun _ _ _ _ _ => (fg_name (i := 2) Sc_moved.nd)) (fun _ _ _ _ _ => fts_nil) (fun _ _ _ _ _ => (fe_ix (fe_var 0) (fe_var 2))))))))
abbrev N_own_group : List Str := ["gear", "box", "first", "name", "held", "moves", "found", "waiting", "order", "sign", "step", "turn", "reached"]
def v_own_group : Sv := (sSeq (sAsg (pTup 3 (psCons (pName 3) (psCons (pName 4) (psCons (pName 5) psNil)))) (fVal (fCall F_own_box_of (aCons (fVar 0) (aCons (fVar 1) aNil))))) (sSeq (sSet 2 (fTup (aCons (fTupRg (fCl clLen (aCons (fVar 4) aNil))) (aCons (fC (.int 1)) aNil)))) (sSeq (sPar [6, 7] (anCons (nDicT (fVar 2) (fC (.bl true))) (anCons (nLst (aLst (aCons (fVar 2) aNil))) anNil))) (sSeq (sWhile 1000000 (tE (fCmpP opNe (pOwn 7) (fLst (aLst aNil)))) (sSeq (sAsg (pTup 2 (psCons (pName 8) (psCons (pName 9) psNil))) (fMut muPop0 (pOwn 7) aNil)) (sFor (iTp (fVar 5)) (pTup 2 (psCons (pName 10) (psCons (pName 11) psNil))) (sSeq (sSet 12 (fTup (aCons (fVal (fCall F_moved (aCons (fVar 8) (aCons (fVar 10) aNil)))) (aCons (fBin opMulA (fVar 9) (fVar 11)) aNil)))) (sIf (fDIn true (fVar 12) (pOwn 6)) (sSeq (sDPutZ (pOwn 6) (fVar 12) (fC (.bl true))) (sExpr (fMut muApp (pOwn 7) (aCons (fVar 12) aNil)))) sNx))))) (sRet (fTupQ (aSortD (pOwn 6))))))))
def F_own_group : Fd := mkF 2 13 v_own_group
theorem len_own_group : LenF (["gear", "box"] : List Str).length F_own_group := fun ts st v s h => mkF_len ts st v s h
theorem Sc_own_group : FnScope N_own_group ["gear", "box"] (defScope (top 27)) := ⟨rfl, rfl, rfl, by decide +kernel, rfl, by decide +kernel, by decide +kernel⟩
theorem G_own_group (W : Wd P w K mg base) : FnG P w K mg base 2 W.a_own_group W.f_own_group ["gear", "box"] F_own_group := fn_ok W.D_own_group Sc_own_group fun cdv A outer s H E hgd rm => (fss_cons (fs_asg (fe_fn (fe_call ((G_own_box_of W).mono (by decide)) (len_own_box_of) hgd rm (by rfl) W.m_own_box_of W.k_own_box_of W.B_own_box_of (fa_cons (fe_var 0) (fa_cons (fe_var 1) fa_nil)))) (fg_tup rfl (fgs_cons (fg_name (i := 3) Sc_own_group.nd) (fgs_cons (fg_name (i := 4) Sc_own_group.nd) (fgs_cons (fg_name (i := 5) Sc_own_group.nd) fgs_nil))))) (fss_cons (fs_set (i := 2) Sc_own_group.nd (fe_tup (fa_cons (fe_tupRg rfl (by rfl) W.b_tuple (by rfl) W.b_range (fe_callB cz_len (by rfl) W.b_len (by decide +kernel) (fa_cons (fe_var 4) fa_nil))) (fa_cons fe_int fa_nil)))) (fss_cons (fs_par2 (i := 6) (j := 7) rfl Sc_own_group.nd (fan_cons (fn_dicT (room_u2 rm) (fe_var 2) fe_bl) (fan_cons (fn_lst (ff_lst (fa_cons (fe_var 2) fa_nil))) fan_nil)) (hn := len_an2)) (fss_cons (fs_while PassesOwn.never (ft_cmpP (oz_ne (room_u1 rm)) (fp_own 7) (fe_of_ff (ff_lst fa_nil))) (fss_cons (fs_asg (fe_mut0 PySem.F.slot_list_pop PySem.F.type_list_pop mt_pop mr_pop (fp_own 7)) (fg_tup rfl (fgs_cons (fg_name (i := 8) Sc_own_group.nd) (fgs_cons (fg_name (i := 9) Sc_own_group.nd) fgs_nil)))) (fss_one (fs_for PassesOwn.never rfl (fi_tup (fe_var 5)) (fg_tup rfl (fgs_cons (fg_name (i := 10) Sc_own_group.nd) (fgs_cons (fg_name (i := 11) Sc_own_group.nd) fgs_nil))) (fss_cons (fs_set (i := 12) Sc_own_group.nd (fe_tup (fa_cons (fe_fn (fe_call ((G_moved W).mono (by decide)) (len_moved) hgd rm (by rfl) W.m_moved W.k_moved W.B_moved (fa_cons (fe_var 8) (fa_cons (fe_var 10) fa_nil)))) (fa_cons (fe_bin oz_mulA (fe_var 9) (fe_var 11)) fa_nil)))) (fss_one (fs_if (ft_dnin (room_u2 rm) (fe_var 12) (fp_own 6)) (fss_cons (fs_dput (room_u2 rm) (fp_own 6) (fe_var 12) fe_bl) (fss_one (fs_expr (fe_mut PySem.F.slot_list_append PySem.F.type_list_append mt_append mr_app (fp_own 7) (fa_cons (fe_var 12) fa_nil))))) fss_nil))))))) (fss_one (fs_ret (fe_tupQ (by rfl) W.b_tuple (fq_ff (ff_sortD rfl (room_u rm) (by rfl) W.b_sorted (fp_own 6))))))))))
abbrev N_slots : List Str := ["gear", "box"]
def v_slots : Sv := (sSeq (sExpr (fVal (fCall F_need_gear (aCons (fVar 0) aNil)))) (sRetN (fCall F_own_slots (aCons (fVar 0) (aCons (fVar 1) aNil)))))
def F_slots : Fd := mkF 2 2 v_slots
theorem len_slots : LenF (["gear", "box"] : List Str).length F_slots := fun ts st v s h => mkF_len ts st v s h
theorem Sc_slots : FnScope N_slots ["gear", "box"] (defScope (top 28)) := ⟨rfl, rfl, rfl, by decide +kernel, rfl, by decide +kernel, by decide +kernel⟩
theorem G_slots (W : Wd P w K mg base) : FnG P w K mg base 7 W.a_slots W.f_slots ["gear", "box"] F_slots := fn_ok W.D_slots Sc_slots fun cdv A outer s H E hgd rm => (fss_cons (fs_expr (fe_fn (fe_call ((G_need_gear W).mono (by decide)) (len_need_gear) hgd rm (by rfl) W.m_need_gear W.k_need_gear W.B_need_gear (fa_cons (fe_var 0) fa_nil)))) (fss_one (fs_retN (fe_call ((G_own_slots W).mono (by decide)) (len_own_slots) hgd rm (by rfl) W.m_own_slots W.k_own_slots W.B_own_slots (fa_cons (fe_var 0) (fa_cons (fe_var 1) fa_nil))))))
abbrev N_group : List Str := ["gear", "box"]
def v_group : Sv := (sSeq (sExpr (fVal (fCall F_need_gear (aCons (fVar 0) aNil)))) (sRetN (fCall F_own_group (aCons (fVar 0) (aCons (fVar 1) aNil)))))
def F_group : Fd := mkF 2 2 v_group
theorem len_group : LenF (["gear", "box"] : List Str).length F_group := fun ts st v s h => mkF_len ts st v s h
theorem Sc_group : FnScope N_group ["gear", "box"] (defScope (top 29)) := ⟨rfl, rfl, rfl, by decide +kernel, rfl, by decide +kernel, by decide +kernel⟩
theorem G_group (W : Wd P w K mg base) : FnG P w K mg base 7 W.a_group W.f_group ["gear", "box"] F_group := fn_ok W.D_group Sc_group fun cdv A outer s H E hgd rm => (fss_cons (fs_expr (fe_fn (fe_call ((G_need_gear W).mono (by decide)) (len_need_gear) hgd rm (by rfl) W.m_need_gear W.k_need_gear W.B_need_gear (fa_cons (fe_var 0) fa_nil)))) (fss_one (fs_retN (fe_call ((G_own_group W).mono (by decide)) (len_own_group) hgd rm (by rfl) W.m_own_group W.k_own_group W.B_own_group (fa_cons (fe_var 0) (fa_cons (fe_var 1) fa_nil))))))
abbrev N__law_start : List Str := ["_law_script"]
def v__law_start : Sv := (sRet (fLoc (nDicP (pCons (fC (.str ("cells" : Str))) (fLst (fBinF opAddL (fVar 0) (fLst (aLst (aCons (fCl clLen (aCons (fVar 0) aNil)) aNil))))) (pCons (fC (.str ("spot" : Str))) (fC (.int 0)) (pCons (fC (.str ("stock" : Str))) (fC (.int 0)) (pCons (fC (.str ("mixed" : Str))) (fC (.int 0)) pNil)))))))
def F__law_start : Fd := mkF 1 1 v__law_start
theorem len__law_start : LenF (["_law_script"] : List Str).length F__law_start := fun ts st v s h => mkF_len ts st v s h
theorem Sc__law_start : FnScope N__law_start ["_law_script"] (defScope (top 31)) := ⟨rfl, rfl, rfl, by decide +kernel, rfl, by decide +kernel, by decide +kernel⟩
theorem G__law_start (W : Wd P w K mg base) : FnG P w K mg base 1 W.a__law_start W.f__law_start ["_law_script"] F__law_start := fn_ok W.D__law_start Sc__law_start fun cdv A outer s H E hgd rm => (fss_one (fs_ret (fe_loc (fn_dicP (fps_cons fe_str (fe_of_ff (ff_bin oz_addL (fe_var 0) (fe_of_ff (ff_lst (fa_cons (fe_callB cz_len (by rfl) W.b_len (by decide +kernel) (fa_cons (fe_var 0) fa_nil)) fa_nil))))) (fps_cons fe_str fe_int (fps_cons fe_str fe_int (fps_cons fe_str fe_int fps_nil))))))))
abbrev N__law_draw : List Str := ["_law_d", "_law_many", "_law_cells", "_law_one", "_law_found", "_law_cell", "_law_k"]
def v__law_draw : Sv := (sSeq (sIf (tE (fBin opGt (fDGet (pLoc (fVar 0)) (fC (.str ("stock" : Str)))) (fC (.int 0)))) (sSeq (sSet 4 (fBin opMod (fDGet (pLoc (fVar 0)) (fC (.str ("stock" : Str)))) (fVar 1))) (sSeq (sDPutZ (pLoc (fVar 0)) (fC (.str ("stock" : Str))) (fBin opDiv (fDGet (pLoc (fVar 0)) (fC (.str ("stock" : Str)))) (fVar 1))) (sRet (fVar 4)))) sNx) (sSeq (sSet 2 (fDGet (pLoc (fVar 0)) (fC (.str ("cells" : Str))))) (sSeq (sPar [5, 6] (anCons (nVal (fBin opIx (fVar 2) (fBin opMod (fDGet (pLoc (fVar 0)) (fC (.str ("spot" : Str)))) (fCl clLen (aCons (fVar 2) aNil))))) (anCons (nVal (fBin opAdd (fDGet (pLoc (fVar 0)) (fC (.str ("mixed" : Str)))) (fC (.int 1)))) anNil))) (sSeq (sDPutZ (pLoc (fVar 0)) (fC (.str ("spot" : Str))) (fBin opAdd (fDGet (pLoc (fVar 0)) (fC (.str ("spot" : Str)))) (fC (.int 1)))) (sSeq (sIf (tAndZ (tE (fBin opGe (fVar 5) (fBin opPow (fC (.int 10)) (fC (.int 18))))) (tE (fBin opLe (fDGet (pLoc (fVar 0)) (fC (.str ("spot" : Str)))) (fCl clLen (aCons (fVar 2) aNil))))) (sSeq (sDPutZ (pLoc (fVar 0)) (fC (.str ("stock" : Str))) (fBin opDiv (fVar 5) (fVar 1))) (sRet (fBin opMod (fVar 5) (fVar 1)))) sNx) (sSeq (sDPutZ (pLoc (fVar 0)) (fC (.str ("mixed" : Str))) (fVar 6)) (sSeq (sSet 3 (fBin opMod (fBin opAdd (fBin opAdd (fBin opMod (fVar 5) (fC (.int 998244353))) (fBin opMulA (fBin opMulA (fC (.int 7901)) (fVar 6)) (fVar 6))) (fBin opMulA (fC (.int 13)) (fDGet (pLoc (fVar 0)) (fC (.str ("spot" : Str)))))) (fC (.int 2147483647)))) (sSeq (sSet 3 (fBin opMod (fBin opMulA (fBin opMod (fBin opMulA (fVar 3) (fVar 3)) (fC (.int 2147483629))) (fBin opAdd (fVar 3) (fC (.int 5)))) (fC (.int 2147483647)))) (sRet (fBin opMod (fBin opDiv (fBin opMod (fBin opAdd (fBin opMulA (fVar 3) (fC (.int 69697))) (fVar 6)) (fC (.int 2147483587))) (fC (.int 11))) (fVar 1)))))))))))
def F__law_draw : Fd := mkF 2 7 v__law_draw
theorem len__law_draw : LenF (["_law_d", "_law_many"] : List Str).length F__law_draw := fun ts st v s h => mkF_len ts st v s h
theorem Sc__law_draw : FnScope N__law_draw ["_law_d", "_law_many"] (defScope (top 32)) := ⟨rfl, rfl, rfl, by decide +kernel, rfl, by decide +kernel, by decide +kernel⟩
theorem G__law_draw (W : Wd P w K mg base) : FnG P w K mg base 1 W.a__law_draw W.f__law_draw ["_law_d", "_law_many"] F__law_draw := fn_ok W.D__law_draw Sc__law_draw fun cdv A outer s H E hgd rm => (fss_cons (fs_if (ft_cmp oz_gt (fe_dget (room_u2 rm) (fp_loc (fe_var 0)) fe_str) fe_int) (fss_cons (fs_set (i := 4) Sc__law_draw.nd (fe_bin oz_mod (fe_dget (room_u2 rm) (fp_loc (fe_var 0)) fe_str) (fe_var 1))) (fss_cons (fs_dput (room_u2 rm) (fp_loc (fe_var 0)) fe_str (fe_bin oz_div (fe_dget (room_u2 rm) (fp_loc (fe_var 0)) fe_str) (fe_var 1))) (fss_one (fs_ret (fe_var 4))))) fss_nil) (fss_cons (fs_set (i := 2) Sc__law_draw.nd (fe_dget (room_u2 rm) (fp_loc (fe_var 0)) fe_str)) (fss_cons (fs_par2 (i := 5) (j := 6) rfl Sc__law_draw.nd (fan_cons (fn_val (fe_ix (fe_var 2) (fe_bin oz_mod (fe_dget (room_u2 rm) (fp_loc (fe_var 0)) fe_str) (fe_callB cz_len (by rfl) W.b_len (by decide +kernel) (fa_cons (fe_var 2) fa_nil))))) (fan_cons (fn_val (fe_bin oz_add (fe_dget (room_u2 rm) (fp_loc (fe_var 0)) fe_str) fe_int)) fan_nil)) (hn := len_an2)) (fss_cons (fs_dput (room_u2 rm) (fp_loc (fe_var 0)) fe_str (fe_bin oz_add (fe_dget (room_u2 rm) (fp_loc (fe_var 0)) fe_str) fe_int)) (fss_cons (fs_if (ft_w (fw_and (ft_cmp oz_ge (fe_var 5) (fe_bin oz_pow fe_int fe_int)) (fw_and1 (ft_cmp oz_le (fe_dget (room_u2 rm) (fp_loc (fe_var 0)) fe_str) (fe_callB cz_len (by rfl) W.b_len (by decide +kernel) (fa_cons (fe_var 2) fa_nil)))))) (fss_cons (fs_dput (room_u2 rm) (fp_loc (fe_var 0)) fe_str (fe_bin oz_div (fe_var 5) (fe_var 1))) (fss_one (fs_ret (fe_bin oz_mod (fe_var 5) (fe_var 1))))) fss_nil) (fss_cons (fs_dput (room_u2 rm) (fp_loc (fe_var 0)) fe_str (fe_var 6)) (fss_cons (fs_set (i := 3) Sc__law_draw.nd (fe_bin oz_mod (fe_bin oz_add (fe_bin oz_add (fe_bin oz_mod (fe_var 5) fe_int) (fe_bin oz_mulA (fe_bin oz_mulA fe_int (fe_var 6)) (fe_var 6))) (fe_bin oz_mulA fe_int (fe_dget (room_u2 rm) (fp_loc (fe_var 0)) fe_str))) fe_int)) (fss_cons (fs_set (i := 3) Sc__law_draw.nd (fe_bin oz_mod (fe_bin oz_mulA (fe_bin oz_mod (fe_bin oz_mulA (fe_var 3) (fe_var 3)) fe_int) (fe_bin oz_add (fe_var 3) fe_int)) fe_int)) (fss_one (fs_ret (fe_bin oz_mod (fe_bin oz_div (fe_bin oz_mod (fe_bin oz_add (fe_bin oz_mulA (fe_var 3) fe_int) (fe_var 6)) fe_int) fe_int) (fe_var 1))))))))))))
abbrev N__law_pick : List Str := ["_law_d", "_law_some"]
def v__law_pick : Sv := (sRet (fBin opIx (fVar 1) (fVal (fCall F__law_draw (aCons (fVar 0) (aCons (fCl clLen (aCons (fVar 1) aNil)) aNil))))))
def F__law_pick : Fd := mkF 2 2 v__law_pick
theorem len__law_pick : LenF (["_law_d", "_law_some"] : List Str).length F__law_pick := fun ts st v s h => mkF_len ts st v s h
theorem Sc__law_pick : FnScope N__law_pick ["_law_d", "_law_some"] (defScope (top 33)) := ⟨rfl, rfl, rfl, by decide +kernel, rfl, by decide +kernel, by decide +kernel⟩
theorem G__law_pick (W : Wd P w K mg base) : FnG P w K mg base 2 W.a__law_pick W.f__law_pick ["_law_d", "_law_some"] F__law_pick := fn_ok W.D__law_pick Sc__law_pick fun cdv A outer s H E hgd rm => (fss_one (fs_ret (fe_ix (fe_var 1) (fe_fn (fe_call ((G__law_draw W).mono (by decide)) (len__law_draw) hgd rm (by rfl) W.m__law_draw W.k__law_draw W.B__law_draw (fa_cons (fe_var 0) (fa_cons (fe_callB cz_len (by rfl) W.b_len (by decide +kernel) (fa_cons (fe_var 1) fa_nil)) fa_nil)))))))
abbrev N__law_names : List Str := ["_law_d", "_law_many", "_law_signs", "_law_found", "_law_name", "_law_size", "_law_wide", "_law_k", "_law_sign"]
def v__law_names : Sv := (sSeq (sPar [2, 3] (anCons (nVal (fC (.str ("abcdefghijklmnopqrstuvwxyz" : Str)))) (anCons (nLst (aLst aNil)) anNil))) (sSeq (sWhile 1000000 (tE (fBin opLt (fLenP (pOwn 3)) (fVar 1))) (sSeq (sPar [5, 6] (anCons (nVal (fBin opAdd (fC (.int 1)) (fVal (fCall F__law_draw (aCons (fVar 0) (aCons (fBin opIx (fLst (aLst (aCons (fC (.int 2)) (aCons (fC (.int 8)) aNil)))) (fVal (fCall F__law_draw (aCons (fVar 0) (aCons (fC (.int 2)) aNil))))) aNil)))))) (anCons (nVal (fBin opIx (fLst (aLst (aCons (fC (.int 3)) (aCons (fC (.int 26)) aNil)))) (fVal (fCall F__law_draw (aCons (fVar 0) (aCons (fC (.int 2)) aNil)))))) anNil))) (sSeq (sSet 4 (fJoin (fC (.str ("" : Str))) (aLc (iRng1 (aCons (fVar 5) aNil)) (pName 7) tTrue (fBin opIx (fVar 2) (fVal (fCall F__law_draw (aCons (fVar 0) (aCons (fVar 6) aNil))))) [7]))) (sSeq (sIf (tE (fCmpR opIn (fVar 4) (pOwn 3))) (sSet 4 (fVal (fCall F__law_pick (aCons (fVar 0) (aCons (fLst (aLc (iStrZ (fVar 2)) (pName 8) (tE (fCmpR opNotIn (fVar 8) (pOwn 3))) (fVar 8) [8])) aNil))))) sNx) (sExpr (fMut muApp (pOwn 3) (aCons (fVar 4) aNil))))))) (sRet (fTupQ (aSort (qPl (pOwn 3)))))))
def F__law_names : Fd := mkF 2 9 v__law_names
theorem len__law_names : LenF (["_law_d", "_law_many"] : List Str).length F__law_names := fun ts st v s h => mkF_len ts st v s h
theorem Sc__law_names : FnScope N__law_names ["_law_d", "_law_many"] (defScope (top 34)) := ⟨rfl, rfl, rfl, by decide +kernel, rfl, by decide +kernel, by decide +kernel⟩
theorem G__law_names (W : Wd P w K mg base) : FnG P w K mg base 3 W.a__law_names W.f__law_names ["_law_d", "_law_many"] F__law_names := fn_ok W.D__law_names Sc__law_names fun cdv A outer s H E hgd rm => (fss_cons (fs_parT (is := [2, 3]) rfl (.cons (i := 2) Sc__law_names.nd rfl (by first | exact Or.inl rfl | exact Or.inr rfl) (.inl rfl) (.cons (i := 3) Sc__law_names.nd rfl (by first | exact Or.inl rfl | exact Or.inr rfl) (.inl rfl) .nil)) (fan_cons (fn_val fe_str) (fan_cons (fn_lst (ff_lst fa_nil)) fan_nil)) len_an2) (fss_cons (fs_while PassesOwn.never (ft_cmp oz_lt (fe_lenP (by rfl) W.b_len (fp_own 3)) (fe_var 1)) (fss_cons (fs_parT (is := [5, 6]) rfl (.cons (i := 5) Sc__law_names.nd rfl (by first | exact Or.inl rfl | exact Or.inr rfl) (.inl rfl) (.cons (i := 6) Sc__law_names.nd rfl (by first | exact Or.inl rfl | exact Or.inr rfl) (.inl rfl) .nil)) (fan_cons (fn_val (fe_bin oz_add fe_int (fe_fn (fe_call ((G__law_draw W).mono (by decide)) (len__law_draw) hgd rm (by rfl) W.m__law_draw W.k__law_draw W.B__law_draw (fa_cons (fe_var 0) (fa_cons (fe_ix (fe_of_ff (ff_lst (fa_cons fe_int (fa_cons fe_int fa_nil)))) (fe_fn (fe_call ((G__law_draw W).mono (by decide)) (len__law_draw) hgd rm (by rfl) W.m__law_draw W.k__law_draw W.B__law_draw (fa_cons (fe_var 0) (fa_cons fe_int fa_nil))))) fa_nil)))))) (fan_cons (fn_val (fe_ix (fe_of_ff (ff_lst (fa_cons fe_int (fa_cons fe_int fa_nil)))) (fe_fn (fe_call ((G__law_draw W).mono (by decide)) (len__law_draw) hgd rm (by rfl) W.m__law_draw W.k__law_draw W.B__law_draw (fa_cons (fe_var 0) (fa_cons fe_int fa_nil)))))) fan_nil)) len_an2) (fss_cons (fs_set (i := 4) Sc__law_names.nd (fe_join fe_str (fq_ff (ff_lc (own := [(("_law_k" : Str), 7)]) rfl Sc__law_names.nd (fi_range1 (by rfl) W.b_range (fa_cons (fe_var 5) fa_nil)) (blkOk_by (by kernel_rfl)) (fun _ _ _ _ _ => (fg_name (i := 7) Sc__law_names.nd)) (fun _ _ _ _ _ => fts_nil) (fun _ _ _ _ _ => (fe_ix (fe_var 2) (fe_fn (fe_call ((G__law_draw W).mono (by decide)) (len__law_draw) hgd rm (by rfl) W.m__law_draw W.k__law_draw W.B__law_draw (fa_cons (fe_var 0) (fa_cons (fe_var 6) fa_nil)))))))))) (fss_cons (fs_if (ft_cmpR (oz_in (room_u rm)) (fe_var 4) (fp_own 3)) (fss_one (fs_set (i := 4) Sc__law_names.nd (fe_fn (fe_call ((G__law_pick W).mono (by decide)) (len__law_pick) hgd rm (by rfl) W.m__law_pick W.k__law_pick W.B__law_pick (fa_cons (fe_var 0) (fa_cons (fe_of_ff (ff_lc (own := [(("_law_sign" : Str), 8)]) rfl Sc__law_names.nd (fi_str (fe_var 2)) (blkOk_by (by kernel_rfl)) (fun _ _ _ _ _ => (fg_name (i := 8) Sc__law_names.nd)) (fun _ _ _ _ _ => (fts_one (ft_cmpR (oz_notIn (room_u rm)) (fe_var 8) (fp_own 3)))) (fun _ _ _ _ _ => (fe_var 8)))) fa_nil)))))) fss_nil) (fss_one (fs_expr (fe_mut PySem.F.slot_list_append PySem.F.type_list_append mt_append mr_app (fp_own 3) (fa_cons (fe_var 4) fa_nil)))))))) (fss_one (fs_ret (fe_tupQ (by rfl) W.b_tuple (fq_ff (ff_sort (room_u rm) (by rfl) W.b_sorted (fq_pl (fp_own 3)))))))))
abbrev N__law_order : List Str := ["_law_d", "_law_held", "_law_slot", "_law_left", "_law_found", "_law_k"]
def v__law_order : Sv := (sSeq (sPar [3, 4] (anCons (nLst (aRg (fCl clLen (aCons (fVar 1) aNil)))) (anCons (nLst (aLst aNil)) anNil))) (sSeq (sFor (iLst (fVar 1)) (pName 2) (sSeq (sExpr (fMut muApp (pOwn 4) (aCons (fVal (fCall F__law_pick (aCons (fVar 0) (aCons (fLst (aLcP (pOwn 3) (pName 5) (tE (fBin opEq (fBin opIx (fVar 1) (fVar 5)) (fVar 2))) (fVar 5) [5])) aNil)))) aNil))) (sExpr (fMut muRem (pOwn 3) (aCons (fIxP (pOwn 4) (fUn opNeg (fC (.int 1)))) aNil))))) (sRet (fTupQ (qPl (pOwn 4))))))
def F__law_order : Fd := mkF 2 6 v__law_order
theorem len__law_order : LenF (["_law_d", "_law_held"] : List Str).length F__law_order := fun ts st v s h => mkF_len ts st v s h
theorem Sc__law_order : FnScope N__law_order ["_law_d", "_law_held"] (defScope (top 35)) := ⟨rfl, rfl, rfl, by decide +kernel, rfl, by decide +kernel, by decide +kernel⟩
theorem G__law_order (W : Wd P w K mg base) : FnG P w K mg base 3 W.a__law_order W.f__law_order ["_law_d", "_law_held"] F__law_order := fn_ok W.D__law_order Sc__law_order fun cdv A outer s H E hgd rm => (fss_cons (fs_par2 (i := 3) (j := 4) rfl Sc__law_order.nd (fan_cons (fn_lst (ff_lstRg rfl (by rfl) W.b_list (by rfl) W.b_range (fe_callB cz_len (by rfl) W.b_len (by decide +kernel) (fa_cons (fe_var 1) fa_nil)))) (fan_cons (fn_lst (ff_lst fa_nil)) fan_nil)) (hn := len_an2)) (fss_cons (fs_for PassesOwn.never rfl (fi_lst (fe_var 1)) (fg_name (i := 2) Sc__law_order.nd) (fss_cons (fs_expr (fe_mut PySem.F.slot_list_append PySem.F.type_list_append mt_append mr_app (fp_own 4) (fa_cons (fe_fn (fe_call ((G__law_pick W).mono (by decide)) (len__law_pick) hgd rm (by rfl) W.m__law_pick W.k__law_pick W.B__law_pick (fa_cons (fe_var 0) (fa_cons (fe_of_ff (ff_lcP (own := [(("_law_k" : Str), 5)]) rfl Sc__law_order.nd (fp_own 3) (blkOk_by (by kernel_rfl)) (fun _ _ _ _ _ => (fg_name (i := 5) Sc__law_order.nd)) (fun _ _ _ _ _ => (fts_one (ft_cmp (oz_eq (room_u1 rm)) (fe_ix (fe_var 1) (fe_var 5)) (fe_var 2)))) (fun _ _ _ _ _ => (fe_var 5)))) fa_nil)))) fa_nil))) (fss_one (fs_expr (fe_mut PySem.F.slot_list_remove PySem.F.type_list_remove (mt_rem (room_u rm)) mr_rem (fp_own 3) (fa_cons (fe_ixP (fp_own 4) (fe_un uz_neg fe_int)) fa_nil)))))) (fss_one (fs_ret (fe_tupQ (by rfl) W.b_tuple (fq_pl (fp_own 4)))))))
abbrev N__law_gear : List Str := ["_law_d", "_law_name", "_law_spaces", "_law_boxes", "_law_k", "_law_moves", "_law_held", "_law_way", "_law_slot"]
def v__law_gear : Sv := (sSeq (sPar [2, 3] (anCons (nVal (fVal (fCall F__law_names (aCons (fVar 0) (aCons (fBin opAdd (fC (.int 1)) (fVal (fCall F__law_draw (aCons (fVar 0) (aCons (fC (.int 3)) aNil))))) aNil))))) (anCons (nLst (aLst aNil)) anNil))) (sSeq (sFor (iTp (fVal (fCall F__law_names (aCons (fVar 0) (aCons (fVal (fCall F__law_draw (aCons (fVar 0) (aCons (fC (.int 9)) aNil)))) aNil))))) (pName 1) (sSeq (sPar [6, 7] (anCons (nLst (aLst aNil)) (anCons (nVal (fVal (fCall F__law_draw (aCons (fVar 0) (aCons (fC (.int 2)) aNil))))) anNil))) (sSeq (sFor (iRng1 (aCons (fVal (fCall F__law_draw (aCons (fVar 0) (aCons (fC (.int 5)) aNil)))) aNil)) (pName 4) (sSeq (sSet 8 (fTup (aCons (fVal (fCall F__law_pick (aCons (fVar 0) (aCons (fVar 2) aNil)))) (aCons (fVal (fCall F__law_pick (aCons (fVar 0) (aCons (fLst (aLst (aCons (fC (.str ("up" : Str))) (aCons (fC (.str ("down" : Str))) aNil)))) aNil)))) aNil)))) (sExpr (fMut muApp (pOwn 6) (aCons (fIf (tOrZ (tE (fBin opEq (fVar 7) (fC (.int 0)))) (tE (fCmpP opEq (pOwn 6) (fLst (aLst aNil))))) (fVar 8) (fIxP (pOwn 6) (fC (.int 0)))) aNil))))) (sGive 6 (sSeq (sSet 5 (fTupQ (aLc (iRng1 (aCons (fVal (fCall F__law_draw (aCons (fVar 0) (aCons (fC (.int 4)) aNil)))) aNil)) (pName 4) tTrue (fTup (aCons (fVal (fCall F__law_order (aCons (fVar 0) (aCons (fVar 6) aNil)))) (aCons (fVal (fCall F__law_pick (aCons (fVar 0) (aCons (fLst (aLst (aCons (fC (.int 1)) (aCons (fUn opNeg (fC (.int 1))) aNil)))) aNil)))) aNil))) [4]))) (sExpr (fMut muApp (pOwn 3) (aCons (fTup (aCons (fVar 1) (aCons (fCl clTup (aCons (fVar 6) aNil)) (aCons (fVar 5) aNil)))) aNil)))))))) (sRet (fTup (aCons (fVar 2) (aCons (fTupQ (qPl (pOwn 3))) aNil))))))
def F__law_gear : Fd := mkF 1 9 v__law_gear
theorem len__law_gear : LenF (["_law_d"] : List Str).length F__law_gear := fun ts st v s h => mkF_len ts st v s h
theorem Sc__law_gear : FnScope N__law_gear ["_law_d"] (defScope (top 36)) := ⟨rfl, rfl, rfl, by decide +kernel, rfl, by decide +kernel, by decide +kernel⟩
theorem G__law_gear (W : Wd P w K mg base) : FnG P w K mg base 4 W.a__law_gear W.f__law_gear ["_law_d"] F__law_gear := fn_ok W.D__law_gear Sc__law_gear fun cdv A outer s H E hgd rm => (fss_cons (fs_par2 (i := 2) (j := 3) rfl Sc__law_gear.nd (fan_cons (fn_val (fe_fn (fe_call ((G__law_names W).mono (by decide)) (len__law_names) hgd rm (by rfl) W.m__law_names W.k__law_names W.B__law_names (fa_cons (fe_var 0) (fa_cons (fe_bin oz_add fe_int (fe_fn (fe_call ((G__law_draw W).mono (by decide)) (len__law_draw) hgd rm (by rfl) W.m__law_draw W.k__law_draw W.B__law_draw (fa_cons (fe_var 0) (fa_cons fe_int fa_nil))))) fa_nil))))) (fan_cons (fn_lst (ff_lst fa_nil)) fan_nil)) (hn := len_an2)) (fss_cons (fs_for PassesOwn.never rfl (fi_tup (fe_fn (fe_call ((G__law_names W).mono (by decide)) (len__law_names) hgd rm (by rfl) W.m__law_names W.k__law_names W.B__law_names (fa_cons (fe_var 0) (fa_cons (fe_fn (fe_call ((G__law_draw W).mono (by decide)) (len__law_draw) hgd rm (by rfl) W.m__law_draw W.k__law_draw W.B__law_draw (fa_cons (fe_var 0) (fa_cons fe_int fa_nil)))) fa_nil))))) (fg_name (i := 1) Sc__law_gear.nd) (fss_cons (fs_parT (is := [6, 7]) rfl (.cons (i := 6) Sc__law_gear.nd rfl (by first | exact Or.inl rfl | exact Or.inr rfl) (.inl rfl) (.cons (i := 7) Sc__law_gear.nd rfl (by first | exact Or.inl rfl | exact Or.inr rfl) (.inl rfl) .nil)) (fan_cons (fn_lst (ff_lst fa_nil)) (fan_cons (fn_val (fe_fn (fe_call ((G__law_draw W).mono (by decide)) (len__law_draw) hgd rm (by rfl) W.m__law_draw W.k__law_draw W.B__law_draw (fa_cons (fe_var 0) (fa_cons fe_int fa_nil))))) fan_nil)) len_an2) (fss_cons (fs_for PassesOwn.never rfl (fi_range1 (by rfl) W.b_range (fa_cons (fe_fn (fe_call ((G__law_draw W).mono (by decide)) (len__law_draw) hgd rm (by rfl) W.m__law_draw W.k__law_draw W.B__law_draw (fa_cons (fe_var 0) (fa_cons fe_int fa_nil)))) fa_nil)) (fg_name (i := 4) Sc__law_gear.nd) (fss_cons (fs_set (i := 8) Sc__law_gear.nd (fe_tup (fa_cons (fe_fn (fe_call ((G__law_pick W).mono (by decide)) (len__law_pick) hgd rm (by rfl) W.m__law_pick W.k__law_pick W.B__law_pick (fa_cons (fe_var 0) (fa_cons (fe_var 2) fa_nil)))) (fa_cons (fe_fn (fe_call ((G__law_pick W).mono (by decide)) (len__law_pick) hgd rm (by rfl) W.m__law_pick W.k__law_pick W.B__law_pick (fa_cons (fe_var 0) (fa_cons (fe_of_ff (ff_lst (fa_cons fe_str (fa_cons fe_str fa_nil)))) fa_nil)))) fa_nil)))) (fss_one (fs_expr (fe_mut PySem.F.slot_list_append PySem.F.type_list_append mt_append mr_app (fp_own 6) (fa_cons (fe_if (ft_w (fw_or (ft_cmp (oz_eq (room_u1 rm)) (fe_var 7) fe_int) (fw_or1 (ft_cmpP (oz_eq (room_u1 rm)) (fp_own 6) (fe_of_ff (ff_lst fa_nil)))))) (fe_var 8) (fe_ixP (fp_own 6) fe_int)) fa_nil)))))) (fss_give (i := 6) (fss_cons (fs_set (i := 5) Sc__law_gear.nd (fe_tupQ (by rfl) W.b_tuple (fq_ff (ff_lc (own := [(("_law_k" : Str), 4)]) rfl Sc__law_gear.nd (fi_range1 (by rfl) W.b_range (fa_cons (fe_fn (fe_call ((G__law_draw W).mono (by decide)) (len__law_draw) hgd rm (by rfl) W.m__law_draw W.k__law_draw W.B__law_draw (fa_cons (fe_var 0) (fa_cons fe_int fa_nil)))) fa_nil)) (blkOk_by (by kernel_rfl)) (fun _ _ _ _ _ => (fg_name (i := 4) Sc__law_gear.nd)) (fun _ _ _ _ _ => fts_nil) (fun _ _ _ _ _ => (fe_tup (fa_cons (fe_fn (fe_call ((G__law_order W).mono (by decide)) (len__law_order) hgd rm (by rfl) W.m__law_order W.k__law_order W.B__law_order (fa_cons (fe_var 0) (fa_cons (fe_var 6) fa_nil)))) (fa_cons (fe_fn (fe_call ((G__law_pick W).mono (by decide)) (len__law_pick) hgd rm (by rfl) W.m__law_pick W.k__law_pick W.B__law_pick (fa_cons (fe_var 0) (fa_cons (fe_of_ff (ff_lst (fa_cons fe_int (fa_cons (fe_un uz_neg fe_int) fa_nil)))) fa_nil)))) fa_nil)))))))) (fss_one (fs_expr (fe_mut PySem.F.slot_list_append PySem.F.type_list_append mt_append mr_app (fp_own 3) (fa_cons (fe_tup (fa_cons (fe_var 1) (fa_cons (fe_callTy cz_tup (by rfl) W.b_tuple (by decide +kernel) (fa_cons (fe_var 6) fa_nil)) (fa_cons (fe_var 5) fa_nil)))) fa_nil))))))))) (fss_one (fs_ret (fe_tup (fa_cons (fe_var 2) (fa_cons (fe_tupQ (by rfl) W.b_tuple (fq_pl (fp_own 3))) fa_nil)))))))
abbrev N__law_back : List Str := ["_law_path", "_law_k"]
def v__law_back : Sv := (sRet (fTupQ (aLc (iRng1 (aCons (fCl clLen (aCons (fVar 0) aNil)) aNil)) (pName 1) tTrue (fIdx (fVar 0) (fVar 1)) [1])))
def F__law_back : Fd := mkF 1 2 v__law_back
theorem len__law_back : LenF (["_law_path"] : List Str).length F__law_back := fun ts st v s h => mkF_len ts st v s h
theorem Sc__law_back : FnScope N__law_back ["_law_path"] (defScope (top 37)) := ⟨rfl, rfl, rfl, by decide +kernel, rfl, by decide +kernel, by decide +kernel⟩
theorem G__law_back (W : Wd P w K mg base) : FnG P w K mg base 1 W.a__law_back W.f__law_back ["_law_path"] F__law_back := fn_ok W.D__law_back Sc__law_back fun cdv A outer s H E hgd rm => (fss_one (fs_ret (fe_tupQ (by rfl) W.b_tuple (fq_ff (ff_lc (own := [(("_law_k" : Str), 1)]) rfl Sc__law_back.nd (fi_range1 (by rfl) W.b_range (fa_cons (fe_callB cz_len (by rfl) W.b_len (by decide +kernel) (fa_cons (fe_var 0) fa_nil)) fa_nil)) (blkOk_by (by kernel_rfl)) (fun _ _ _ _ _ => (fg_name (i := 1) Sc__law_back.nd)) (fun _ _ _ _ _ => fts_nil) (fun _ _ _ _ _ => (fe_idx (fe_var 0) (fe_var 1))))))))
abbrev N__law_all : List Str := ["_law_held", "_law_found", "_law_k", "_law_slot"]
def v__law_all : Sv := (sSeq (sSet 1 (fC (.int 1))) (sSeq (sFor (iEnumL (aCons (fVar 0) aNil)) (pTup 2 (psCons (pName 2) (psCons (pName 3) psNil))) (sSet 1 (fBin opMulA (fVar 1) (fBin opAdd (fC (.int 1)) (fCntL (fSlA (fVar 0) oNo (oOf (fVar 2))) (fVar 3)))))) (sRet (fVar 1))))
def F__law_all : Fd := mkF 1 4 v__law_all
theorem len__law_all : LenF (["_law_held"] : List Str).length F__law_all := fun ts st v s h => mkF_len ts st v s h
theorem Sc__law_all : FnScope N__law_all ["_law_held"] (defScope (top 38)) := ⟨rfl, rfl, rfl, by decide +kernel, rfl, by decide +kernel, by decide +kernel⟩
theorem G__law_all (W : Wd P w K mg base) : FnG P w K mg base 1 W.a__law_all W.f__law_all ["_law_held"] F__law_all := fn_ok W.D__law_all Sc__law_all fun cdv A outer s H E hgd rm => (fss_cons (fs_set (i := 1) Sc__law_all.nd fe_int) (fss_cons (fs_for PassesOwn.never rfl (fi_enumL (by rfl) W.b_enumerate (fa_cons (fe_var 0) fa_nil)) (fg_tup rfl (fgs_cons (fg_name (i := 2) Sc__law_all.nd) (fgs_cons (fg_name (i := 3) Sc__law_all.nd) fgs_nil))) (fss_one (fs_set (i := 1) Sc__law_all.nd (fe_bin oz_mulA (fe_var 1) (fe_bin oz_add fe_int (fe_cntL (room_u rm) (fe_slA (fe_var 0) fo_no (fo_of (fe_var 2))) (fe_var 3))))))) (fss_one (fs_ret (fe_var 1)))))
abbrev N__law_things : List Str := ["_law_d", "_law_many", "_law_k", "_law_some", "_law_found"]
def v__law_things : Sv := (sSeq (sPar [3, 4] (anCons (nLst (aLst (aCons (fC .non) (aCons (fC (.str ("a" : Str))) (aCons (fC (.int 7)) (aCons (fTup (aCons (fC (.str ("a" : Str))) (aCons (fC (.str ("b" : Str))) aNil))) (aCons (fC (.str ("" : Str))) (aCons (fTup aNil) (aCons (fBin opPow (fC (.int 10)) (fC (.int 30))) (aCons (fUn opNeg (fC (.int 1))) (aCons (fTup (aCons (fC (.str ("up" : Str))) aNil)) (aCons (fLst (aLst (aCons (fC (.int 0)) aNil))) (aCons fDicS (aCons (fC (.bl true)) aNil)))))))))))))) (anCons (nLst (aLst aNil)) anNil))) (sSeq (sFor (iRng1 (aCons (fVar 1) aNil)) (pName 2) (sExpr (fMut muApp (pOwn 4) (aCons (fMut muPopAt (pOwn 3) (aCons (fVal (fCall F__law_draw (aCons (fVar 0) (aCons (fLenP (pOwn 3)) aNil)))) aNil)) aNil)))) (sRet (fTupQ (qPl (pOwn 4))))))
def F__law_things : Fd := mkF 2 5 v__law_things
theorem len__law_things : LenF (["_law_d", "_law_many"] : List Str).length F__law_things := fun ts st v s h => mkF_len ts st v s h
theorem Sc__law_things : FnScope N__law_things ["_law_d", "_law_many"] (defScope (top 39)) := ⟨rfl, rfl, rfl, by decide +kernel, rfl, by decide +kernel, by decide +kernel⟩
theorem G__law_things (W : Wd P w K mg base) : FnG P w K mg base 2 W.a__law_things W.f__law_things ["_law_d", "_law_many"] F__law_things := fn_ok W.D__law_things Sc__law_things fun cdv A outer s H E hgd rm => (fss_cons (fs_par2 (i := 3) (j := 4) rfl Sc__law_things.nd (fan_cons (fn_lst (ff_lst (fa_cons fe_non (fa_cons fe_str (fa_cons fe_int (fa_cons (fe_tup (fa_cons fe_str (fa_cons fe_str fa_nil))) (fa_cons fe_str (fa_cons (fe_tup fa_nil) (fa_cons (fe_bin oz_pow fe_int fe_int) (fa_cons (fe_un uz_neg fe_int) (fa_cons (fe_tup (fa_cons fe_str fa_nil)) (fa_cons (fe_of_ff (ff_lst (fa_cons fe_int fa_nil))) (fa_cons fe_dicS (fa_cons fe_bl fa_nil)))))))))))))) (fan_cons (fn_lst (ff_lst fa_nil)) fan_nil)) (hn := len_an2)) (fss_cons (fs_for PassesOwn.never rfl (fi_range1 (by rfl) W.b_range (fa_cons (fe_var 1) fa_nil)) (fg_name (i := 2) Sc__law_things.nd) (fss_one (fs_expr (fe_mut PySem.F.slot_list_append PySem.F.type_list_append mt_append mr_app (fp_own 4) (fa_cons (fe_mut PySem.F.slot_list_pop PySem.F.type_list_pop mt_popAt mr_popAt (fp_own 3) (fa_cons (fe_fn (fe_call ((G__law_draw W).mono (by decide)) (len__law_draw) hgd rm (by rfl) W.m__law_draw W.k__law_draw W.B__law_draw (fa_cons (fe_var 0) (fa_cons (fe_lenP (by rfl) W.b_len (fp_own 3)) fa_nil)))) fa_nil)) fa_nil))))) (fss_one (fs_ret (fe_tupQ (by rfl) W.b_tuple (fq_pl (fp_own 4)))))))
abbrev N__law_moved_right : List Str := ["_law_d", "_law_held", "_law_own", "_law_line", "_law_shown", "_law_once", "_law_path", "_law_sign", "_law_step", "_law_turn", "_law_k", "_law_one", "_law_own_sign"]
def v__law_moved_right : Sv := (sSeq (sSet 3 (fVal (fCall F__law_things (aCons (fVar 0) (aCons (fCl clLen (aCons (fVar 1) aNil)) aNil))))) (sSeq (sSet 4 (fCl clReprV (aCons (fVar 3) aNil))) (sSeq (sAsg (pTup 2 (psCons (pTup 2 (psCons (pName 6) (psCons (pName 7) psNil))) (psCons (pTup 2 (psCons (pName 8) (psCons (pName 9) psNil))) psNil))) (fTup (aCons (fVal (fCall F__law_pick (aCons (fVar 0) (aCons (fVar 2) aNil)))) (aCons (fVal (fCall F__law_pick (aCons (fVar 0) (aCons (fVar 2) aNil)))) aNil)))) (sSeq (sSet 5 (fVal (fCall F_moved (aCons (fVar 3) (aCons (fVar 6) aNil))))) (sSeq (sIf (tOrZ (tE (fBin opNe (fCl clReprV (aCons (fVar 5) aNil)) (fCl clReprV (aCons (fTupQ (aLc (iTp (fVar 6)) (pName 10) tTrue (fBin opIx (fVar 3) (fVar 10)) [10])) aNil)))) (tE (fBin opNe (fCl clReprV (aCons (fVal (fCallP [0, 1] F_moved (aCons (fVar 3) (aCons (fVar 6) aNil)))) aNil)) (fCl clReprV (aCons (fVar 5) aNil))))) (sRet (fC (.bl false))) sNx) (sSeq (sIf (tOrZ (tE (fBin opNe (fCl clReprV (aCons (fVal (fCall F_moved (aCons (fVar 5) (aCons (fVar 8) aNil)))) aNil)) (fCl clReprV (aCons (fVal (fCall F_moved (aCons (fVar 3) (aCons (fVal (fCall F_moved (aCons (fVar 6) (aCons (fVar 8) aNil)))) aNil)))) aNil)))) (tE (fBin opNe (fCl clReprV (aCons (fVar 3) aNil)) (fVar 4)))) (sRet (fC (.bl false))) sNx) (sSeq (sIf (tE (fBin opNe (fCl clReprV (aCons (fVal (fCall F_moved (aCons (fVar 5) (aCons (fVal (fCall F__law_back (aCons (fVar 6) aNil))) aNil)))) aNil)) (fVar 4))) (sRet (fC (.bl false))) sNx) (sRet (fBin opEq (fLenSet (aLc (iTp (fVar 2)) (pTup 2 (psCons (pName 11) (psCons (pName 12) psNil))) tTrue (fCl clReprV (aCons (fVal (fCall F_moved (aCons (fVar 3) (aCons (fVar 11) aNil)))) aNil)) [11, 12])) (fLenSetN (aLc (iTp (fVar 2)) (pTup 2 (psCons (pName 11) (psCons (pName 12) psNil))) tTrue (fVar 11) [11, 12])))))))))))
def F__law_moved_right : Fd := mkF 3 13 v__law_moved_right
theorem len__law_moved_right : LenF (["_law_d", "_law_held", "_law_own"] : List Str).length F__law_moved_right := fun ts st v s h => mkF_len ts st v s h
theorem Sc__law_moved_right : FnScope N__law_moved_right ["_law_d", "_law_held", "_law_own"] (defScope (top 40)) := ⟨rfl, rfl, rfl, by decide +kernel, rfl, by decide +kernel, by decide +kernel⟩
theorem G__law_moved_right (W : Wd P w K mg base) : FnG P w K mg base 3 W.a__law_moved_right W.f__law_moved_right ["_law_d", "_law_held", "_law_own"] F__law_moved_right := fn_ok W.D__law_moved_right Sc__law_moved_right fun cdv A outer s H E hgd rm => (fss_cons (fs_set (i := 3) Sc__law_moved_right.nd (fe_fn (fe_call ((G__law_things W).mono (by decide)) (len__law_things) hgd rm (by rfl) W.m__law_things W.k__law_things W.B__law_things (fa_cons (fe_var 0) (fa_cons (fe_callB cz_len (by rfl) W.b_len (by decide +kernel) (fa_cons (fe_var 1) fa_nil)) fa_nil))))) (fss_cons (fs_set (i := 4) Sc__law_moved_right.nd (fe_callB (cz_reprV hgd (room_u rm)) (by rfl) W.b_repr (by decide +kernel) (fa_cons (fe_var 3) fa_nil))) (fss_cons (fs_asg (fe_tup (fa_cons (fe_fn (fe_call ((G__law_pick W).mono (by decide)) (len__law_pick) hgd rm (by rfl) W.m__law_pick W.k__law_pick W.B__law_pick (fa_cons (fe_var 0) (fa_cons (fe_var 2) fa_nil)))) (fa_cons (fe_fn (fe_call ((G__law_pick W).mono (by decide)) (len__law_pick) hgd rm (by rfl) W.m__law_pick W.k__law_pick W.B__law_pick (fa_cons (fe_var 0) (fa_cons (fe_var 2) fa_nil)))) fa_nil))) (fg_tup rfl (fgs_cons (fg_tup rfl (fgs_cons (fg_name (i := 6) Sc__law_moved_right.nd) (fgs_cons (fg_name (i := 7) Sc__law_moved_right.nd) fgs_nil))) (fgs_cons (fg_tup rfl (fgs_cons (fg_name (i := 8) Sc__law_moved_right.nd) (fgs_cons (fg_name (i := 9) Sc__law_moved_right.nd) fgs_nil))) fgs_nil)))) (fss_cons (fs_set (i := 5) Sc__law_moved_right.nd (fe_fn (fe_call ((G_moved W).mono (by decide)) (len_moved) hgd rm (by rfl) W.m_moved W.k_moved W.B_moved (fa_cons (fe_var 3) (fa_cons (fe_var 6) fa_nil))))) (fss_cons (fs_if (ft_w (fw_or (ft_cmp (oz_ne (room_u1 rm)) (fe_callB (cz_reprV hgd (room_u rm)) (by rfl) W.b_repr (by decide +kernel) (fa_cons (fe_var 5) fa_nil)) (fe_callB (cz_reprV hgd (room_u rm)) (by rfl) W.b_repr (by decide +kernel) (fa_cons (fe_tupQ (by rfl) W.b_tuple (fq_ff (ff_lc (own := [(("_law_k" : Str), 10)]) rfl Sc__law_moved_right.nd (fi_tup (fe_var 6)) (blkOk_by (by kernel_rfl)) (fun _ _ _ _ _ => (fg_name (i := 10) Sc__law_moved_right.nd)) (fun _ _ _ _ _ => fts_nil) (fun _ _ _ _ _ => (fe_ix (fe_var 3) (fe_var 10)))))) fa_nil))) (fw_or1 (ft_cmp (oz_ne (room_u1 rm)) (fe_callB (cz_reprV hgd (room_u rm)) (by rfl) W.b_repr (by decide +kernel) (fa_cons (fe_fn (fe_callP ((G_moved W).mono (by decide)) (len_moved) hgd rm (by rfl) W.m_moved W.k_moved (KP_moved_row_order W) (fk_cons (fe_var 3) (fk_cons (fe_var 6) fk_nil)))) fa_nil)) (fe_callB (cz_reprV hgd (room_u rm)) (by rfl) W.b_repr (by decide +kernel) (fa_cons (fe_var 5) fa_nil)))))) (fss_one (fs_ret fe_bl)) fss_nil) (fss_cons (fs_if (ft_w (fw_or (ft_cmp (oz_ne (room_u1 rm)) (fe_callB (cz_reprV hgd (room_u rm)) (by rfl) W.b_repr (by decide +kernel) (fa_cons (fe_fn (fe_call ((G_moved W).mono (by decide)) (len_moved) hgd rm (by rfl) W.m_moved W.k_moved W.B_moved (fa_cons (fe_var 5) (fa_cons (fe_var 8) fa_nil)))) fa_nil)) (fe_callB (cz_reprV hgd (room_u rm)) (by rfl) W.b_repr (by decide +kernel) (fa_cons (fe_fn (fe_call ((G_moved W).mono (by decide)) (len_moved) hgd rm (by rfl) W.m_moved W.k_moved W.B_moved (fa_cons (fe_var 3) (fa_cons (fe_fn (fe_call ((G_moved W).mono (by decide)) (len_moved) hgd rm (by rfl) W.m_moved W.k_moved W.B_moved (fa_cons (fe_var 6) (fa_cons (fe_var 8) fa_nil)))) fa_nil)))) fa_nil))) (fw_or1 (ft_cmp (oz_ne (room_u1 rm)) (fe_callB (cz_reprV hgd (room_u rm)) (by rfl) W.b_repr (by decide +kernel) (fa_cons (fe_var 3) fa_nil)) (fe_var 4))))) (fss_one (fs_ret fe_bl)) fss_nil) (fss_cons (fs_if (ft_cmp (oz_ne (room_u1 rm)) (fe_callB (cz_reprV hgd (room_u rm)) (by rfl) W.b_repr (by decide +kernel) (fa_cons (fe_fn (fe_call ((G_moved W).mono (by decide)) (len_moved) hgd rm (by rfl) W.m_moved W.k_moved W.B_moved (fa_cons (fe_var 5) (fa_cons (fe_fn (fe_call ((G__law_back W).mono (by decide)) (len__law_back) hgd rm (by rfl) W.m__law_back W.k__law_back W.B__law_back (fa_cons (fe_var 6) fa_nil))) fa_nil)))) fa_nil)) (fe_var 4)) (fss_one (fs_ret fe_bl)) fss_nil) (fss_one (fs_ret (fe_cmp (oz_eq (room_u1 rm)) (fe_lenSet rfl (by rfl) W.b_len (by rfl) W.b_set (fq_ff (ff_lc (own := [(("_law_one" : Str), 11), (("_law_own_sign" : Str), 12)]) rfl Sc__law_moved_right.nd (fi_tup (fe_var 2)) (blkOk_by (by kernel_rfl)) (fun _ _ _ _ _ => (fg_tup rfl (fgs_cons (fg_name (i := 11) Sc__law_moved_right.nd) (fgs_cons (fg_name (i := 12) Sc__law_moved_right.nd) fgs_nil)))) (fun _ _ _ _ _ => fts_nil) (fun _ _ _ _ _ => (fe_callB (cz_reprV hgd (room_u rm)) (by rfl) W.b_repr (by decide +kernel) (fa_cons (fe_fn (fe_call ((G_moved W).mono (by decide)) (len_moved) hgd rm (by rfl) W.m_moved W.k_moved W.B_moved (fa_cons (fe_var 3) (fa_cons (fe_var 11) fa_nil)))) fa_nil)))))) (fe_lenSetN rfl (room_u rm) (by rfl) W.b_len (by rfl) W.b_set (fq_ff (ff_lc (own := [(("_law_one" : Str), 11), (("_law_own_sign" : Str), 12)]) rfl Sc__law_moved_right.nd (fi_tup (fe_var 2)) (blkOk_by (by kernel_rfl)) (fun _ _ _ _ _ => (fg_tup rfl (fgs_cons (fg_name (i := 11) Sc__law_moved_right.nd) (fgs_cons (fg_name (i := 12) Sc__law_moved_right.nd) fgs_nil)))) (fun _ _ _ _ _ => fts_nil) (fun _ _ _ _ _ => (fe_var 11)))))))))))))))
abbrev N__law_after : List Str := ["_law_path", "_law_step", "_law_k"]
def v__law_after : Sv := (sRet (fTupQ (aLc (iTp (fVar 1)) (pName 2) tTrue (fBin opIx (fVar 0) (fVar 2)) [2])))
def F__law_after : Fd := mkF 2 3 v__law_after
theorem len__law_after : LenF (["_law_path", "_law_step"] : List Str).length F__law_after := fun ts st v s h => mkF_len ts st v s h
theorem Sc__law_after : FnScope N__law_after ["_law_path", "_law_step"] (defScope (top 41)) := ⟨rfl, rfl, rfl, by decide +kernel, rfl, by decide +kernel, by decide +kernel⟩
theorem G__law_after (W : Wd P w K mg base) : FnG P w K mg base 1 W.a__law_after W.f__law_after ["_law_path", "_law_step"] F__law_after := fn_ok W.D__law_after Sc__law_after fun cdv A outer s H E hgd rm => (fss_one (fs_ret (fe_tupQ (by rfl) W.b_tuple (fq_ff (ff_lc (own := [(("_law_k" : Str), 2)]) rfl Sc__law_after.nd (fi_tup (fe_var 1)) (blkOk_by (by kernel_rfl)) (fun _ _ _ _ _ => (fg_name (i := 2) Sc__law_after.nd)) (fun _ _ _ _ _ => fts_nil) (fun _ _ _ _ _ => (fe_ix (fe_var 0) (fe_var 2))))))))
abbrev N__law_closed : List Str := ["_law_d", "_law_held", "_law_own", "_law_undone", "_law_reached", "_law_still", "_law_orders", "_law_many", "_law_step", "_law_turn", "_law_path", "_law_sign", "_law_one"]
def v__law_closed : Sv := (sSeq (sPar [5, 6] (anCons (nVal (fTupRg (fCl clLen (aCons (fVar 1) aNil)))) (anCons (nVal (fLst (aLc (iAny (fVar 2)) (pTup 2 (psCons (pName 10) (psCons (pName 11) psNil))) tTrue (fVar 10) [10, 11]))) anNil))) (sSeq (sIf (tOrZ (tE (fBin opNotIn (fTup (aCons (fVar 5) (aCons (fC (.int 1)) aNil))) (fVar 2))) (tE (fBin opNe (fLst (aLc (iLst (fVar 6)) (pName 10) (tE (fBin opNe (fVal (fCall F__law_after (aCons (fVar 1) (aCons (fVar 10) aNil)))) (fVar 1))) (fVar 10) [10])) (fLst (aLst aNil))))) (sRet (fC (.bl false))) sNx) (sSeq (sSet 3 (fLst (aLc (iAny (fVar 2)) (pTup 2 (psCons (pName 10) (psCons (pName 11) psNil))) tTrue (fTup (aCons (fVal (fCall F__law_back (aCons (fVar 10) aNil))) (aCons (fVar 11) aNil))) [10, 11]))) (sSeq (sIf (tE (fBin opNe (fLst (aLc (iLst (fVar 3)) (pName 12) (tOrZ (tE (fBin opNotIn (fVar 12) (fVar 2))) (tE (fBin opNotIn (fBin opIx (fVar 12) (fC (.int 1))) (fTup (aCons (fC (.int 1)) (aCons (fUn opNeg (fC (.int 1))) aNil)))))) (fVar 12) [12])) (fLst (aLst aNil)))) (sRet (fC (.bl false))) sNx) (sSeq (sAsg (pTup 2 (psCons (pTup 2 (psCons (pName 8) (psCons (pName 9) psNil))) (psCons (pName 7) psNil))) (fTup (aCons (fVal (fCall F__law_pick (aCons (fVar 0) (aCons (fVar 2) aNil)))) (aCons (fLenSetN (iLst (fVar 6))) aNil)))) (sSeq (sSet 4 (fLst (aLc (iAny (fVar 2)) (pTup 2 (psCons (pName 10) (psCons (pName 11) psNil))) tTrue (fTup (aCons (fVal (fCall F__law_after (aCons (fVar 10) (aCons (fVar 8) aNil)))) (aCons (fBin opMulA (fVar 11) (fVar 9)) aNil))) [10, 11]))) (sSeq (sIf (tE (fBin opNe (fLst (aLc (iLst (fVar 4)) (pName 12) (tE (fBin opNotIn (fVar 12) (fVar 2))) (fVar 12) [12])) (fLst (aLst aNil)))) (sRet (fC (.bl false))) sNx) (sSeq (sIf (tOrZ (tE (fBin opNe (fCl clLen (aCons (fVar 2) aNil)) (fIf (tE (fBin opIn (fTup (aCons (fVar 5) (aCons (fUn opNeg (fC (.int 1))) aNil))) (fVar 2))) (fBin opMulA (fC (.int 2)) (fVar 7)) (fVar 7)))) (tE (fBin opNe (fBin opMod (fVal (fCall F__law_all (aCons (fLst (fClF clLst (aCons (fVar 1) aNil))) aNil))) (fVar 7)) (fC (.int 0))))) (sRet (fC (.bl false))) sNx) (sRet (fAnd (fBin opEq (fLst (fClF clLst (aCons (fVar 2) aNil))) (fLst (aSortSetM (iTp (fVar 2))))) (fIsi "tuple" (fVar 2))))))))))))
def F__law_closed : Fd := mkF 3 13 v__law_closed
theorem len__law_closed : LenF (["_law_d", "_law_held", "_law_own"] : List Str).length F__law_closed := fun ts st v s h => mkF_len ts st v s h
theorem Sc__law_closed : FnScope N__law_closed ["_law_d", "_law_held", "_law_own"] (defScope (top 42)) := ⟨rfl, rfl, rfl, by decide +kernel, rfl, by decide +kernel, by decide +kernel⟩
theorem G__law_closed (W : Wd P w K mg base) : FnG P w K mg base 3 W.a__law_closed W.f__law_closed ["_law_d", "_law_held", "_law_own"] F__law_closed := fn_ok W.D__law_closed Sc__law_closed fun cdv A outer s H E hgd rm => (fss_cons (fs_par2 (i := 5) (j := 6) rfl Sc__law_closed.nd (fan_cons (fn_val (fe_tupRg rfl (by rfl) W.b_tuple (by rfl) W.b_range (fe_callB cz_len (by rfl) W.b_len (by decide +kernel) (fa_cons (fe_var 1) fa_nil)))) (fan_cons (fn_val (fe_of_ff (ff_lc (own := [(("_law_path" : Str), 10), (("_law_sign" : Str), 11)]) rfl Sc__law_closed.nd (fi_any (fe_var 2)) (blkOk_by (by kernel_rfl)) (fun _ _ _ _ _ => (fg_tup rfl (fgs_cons (fg_name (i := 10) Sc__law_closed.nd) (fgs_cons (fg_name (i := 11) Sc__law_closed.nd) fgs_nil)))) (fun _ _ _ _ _ => fts_nil) (fun _ _ _ _ _ => (fe_var 10))))) fan_nil)) (hn := len_an2)) (fss_cons (fs_if (ft_w (fw_or (ft_cmp (oz_notIn (room_u rm)) (fe_tup (fa_cons (fe_var 5) (fa_cons fe_int fa_nil))) (fe_var 2)) (fw_or1 (ft_cmp (oz_ne (room_u1 rm)) (fe_of_ff (ff_lc (own := [(("_law_path" : Str), 10)]) rfl Sc__law_closed.nd (fi_lst (fe_var 6)) (blkOk_by (by kernel_rfl)) (fun _ _ _ _ _ => (fg_name (i := 10) Sc__law_closed.nd)) (fun _ _ _ _ _ => (fts_one (ft_cmp (oz_ne (room_u1 rm)) (fe_fn (fe_call ((G__law_after W).mono (by decide)) (len__law_after) hgd rm (by rfl) W.m__law_after W.k__law_after W.B__law_after (fa_cons (fe_var 1) (fa_cons (fe_var 10) fa_nil)))) (fe_var 1)))) (fun _ _ _ _ _ => (fe_var 10)))) (fe_of_ff (ff_lst fa_nil)))))) (fss_one (fs_ret fe_bl)) fss_nil) (fss_cons (fs_setLc (i := 3) (own := [(("_law_path" : Str), 10), (("_law_sign" : Str), 11)]) rfl Sc__law_closed.nd (fi_any (fe_var 2)) (blkOk_by (by kernel_rfl)) (fun _ _ _ _ _ => (fg_tup rfl (fgs_cons (fg_name (i := 10) Sc__law_closed.nd) (fgs_cons (fg_name (i := 11) Sc__law_closed.nd) fgs_nil)))) (fun _ _ _ _ _ => fts_nil) (fun _ _ _ _ _ => (fe_tup (fa_cons (fe_fn (fe_call ((G__law_back W).mono (by decide)) (len__law_back) hgd rm (by rfl) W.m__law_back W.k__law_back W.B__law_back (fa_cons (fe_var 10) fa_nil))) (fa_cons (fe_var 11) fa_nil))))) (fss_cons (fs_if (ft_cmp (oz_ne (room_u1 rm)) (fe_of_ff (ff_lc (own := [(("_law_one" : Str), 12)]) rfl Sc__law_closed.nd (fi_lst (fe_var 3)) (blkOk_by (by kernel_rfl)) (fun _ _ _ _ _ => (fg_name (i := 12) Sc__law_closed.nd)) (fun _ _ _ _ _ => (fts_one (ft_w (fw_or (ft_cmp (oz_notIn (room_u rm)) (fe_var 12) (fe_var 2)) (fw_or1 (ft_cmp (oz_notIn (room_u rm)) (fe_ix (fe_var 12) fe_int) (fe_tup (fa_cons fe_int (fa_cons (fe_un uz_neg fe_int) fa_nil))))))))) (fun _ _ _ _ _ => (fe_var 12)))) (fe_of_ff (ff_lst fa_nil))) (fss_one (fs_ret fe_bl)) fss_nil) (fss_cons (fs_asg (fe_tup (fa_cons (fe_fn (fe_call ((G__law_pick W).mono (by decide)) (len__law_pick) hgd rm (by rfl) W.m__law_pick W.k__law_pick W.B__law_pick (fa_cons (fe_var 0) (fa_cons (fe_var 2) fa_nil)))) (fa_cons (fe_lenSetN rfl (room_u rm) (by rfl) W.b_len (by rfl) W.b_set (fq_lst (fe_var 6))) fa_nil))) (fg_tup rfl (fgs_cons (fg_tup rfl (fgs_cons (fg_name (i := 8) Sc__law_closed.nd) (fgs_cons (fg_name (i := 9) Sc__law_closed.nd) fgs_nil))) (fgs_cons (fg_name (i := 7) Sc__law_closed.nd) fgs_nil)))) (fss_cons (fs_setLc (i := 4) (own := [(("_law_path" : Str), 10), (("_law_sign" : Str), 11)]) rfl Sc__law_closed.nd (fi_any (fe_var 2)) (blkOk_by (by kernel_rfl)) (fun _ _ _ _ _ => (fg_tup rfl (fgs_cons (fg_name (i := 10) Sc__law_closed.nd) (fgs_cons (fg_name (i := 11) Sc__law_closed.nd) fgs_nil)))) (fun _ _ _ _ _ => fts_nil) (fun _ _ _ _ _ => (fe_tup (fa_cons (fe_fn (fe_call ((G__law_after W).mono (by decide)) (len__law_after) hgd rm (by rfl) W.m__law_after W.k__law_after W.B__law_after (fa_cons (fe_var 10) (fa_cons (fe_var 8) fa_nil)))) (fa_cons (fe_bin oz_mulA (fe_var 11) (fe_var 9)) fa_nil))))) (fss_cons (fs_if (ft_cmp (oz_ne (room_u1 rm)) (fe_of_ff (ff_lc (own := [(("_law_one" : Str), 12)]) rfl Sc__law_closed.nd (fi_lst (fe_var 4)) (blkOk_by (by kernel_rfl)) (fun _ _ _ _ _ => (fg_name (i := 12) Sc__law_closed.nd)) (fun _ _ _ _ _ => (fts_one (ft_cmp (oz_notIn (room_u rm)) (fe_var 12) (fe_var 2)))) (fun _ _ _ _ _ => (fe_var 12)))) (fe_of_ff (ff_lst fa_nil))) (fss_one (fs_ret fe_bl)) fss_nil) (fss_cons (fs_if (ft_w (fw_or (ft_cmp (oz_ne (room_u1 rm)) (fe_callB cz_len (by rfl) W.b_len (by decide +kernel) (fa_cons (fe_var 2) fa_nil)) (fe_if (ft_cmp (oz_in (room_u rm)) (fe_tup (fa_cons (fe_var 5) (fa_cons (fe_un uz_neg fe_int) fa_nil))) (fe_var 2)) (fe_bin oz_mulA fe_int (fe_var 7)) (fe_var 7))) (fw_or1 (ft_cmp (oz_ne (room_u1 rm)) (fe_bin oz_mod (fe_fn (fe_call ((G__law_all W).mono (by decide)) (len__law_all) hgd rm (by rfl) W.m__law_all W.k__law_all W.B__law_all (fa_cons (fe_of_ff (ff_callTy cz_lst (by rfl) W.b_list (by decide +kernel) (fa_cons (fe_var 1) fa_nil))) fa_nil))) (fe_var 7)) fe_int)))) (fss_one (fs_ret fe_bl)) fss_nil) (fss_one (fs_ret (fe_and (fe_cmp (oz_eq (room_u1 rm)) (fe_of_ff (ff_callTy cz_lst (by rfl) W.b_list (by decide +kernel) (fa_cons (fe_var 2) fa_nil))) (fe_of_ff (ff_sortSetM rfl (room_u rm) (by rfl) W.b_sorted (by rfl) W.b_set (fq_tup (fe_var 2))))) (fe_one (fe_isi (by rfl) W.b_isinstance (by rfl) W.b_tuple (by decide +kernel) (fe_var 2))))))))))))))
abbrev N__law_with : List Str := ["_law_gear_so", "_law_at", "_law_moves", "_law_name", "_law_held", "_law_old"]
def v__law_with : Sv := (sSeq (sAsg (pTup 3 (psCons (pName 3) (psCons (pName 4) (psCons (pName 5) psNil)))) (fBin opIx (fBin opIx (fVar 0) (fC (.int 1))) (fVar 1))) (sRet (fTup (aCons (fBin opIx (fVar 0) (fC (.int 0))) (aCons (fBin opAdd (fBin opAdd (fSlA (fBin opIx (fVar 0) (fC (.int 1))) oNo (oOf (fVar 1))) (fTup (aCons (fTup (aCons (fVar 3) (aCons (fVar 4) (aCons (fCl clTup (aCons (fVar 2) aNil)) aNil)))) aNil))) (fSlA (fBin opIx (fVar 0) (fC (.int 1))) (oOf (fBin opAdd (fVar 1) (fC (.int 1)))) oNo)) aNil)))))
def F__law_with : Fd := mkF 3 6 v__law_with
theorem len__law_with : LenF (["_law_gear_so", "_law_at", "_law_moves"] : List Str).length F__law_with := fun ts st v s h => mkF_len ts st v s h
theorem Sc__law_with : FnScope N__law_with ["_law_gear_so", "_law_at", "_law_moves"] (defScope (top 43)) := ⟨rfl, rfl, rfl, by decide +kernel, rfl, by decide +kernel, by decide +kernel⟩
theorem G__law_with (W : Wd P w K mg base) : FnG P w K mg base 1 W.a__law_with W.f__law_with ["_law_gear_so", "_law_at", "_law_moves"] F__law_with := fn_ok W.D__law_with Sc__law_with fun cdv A outer s H E hgd rm => (fss_cons (fs_asg (fe_ix (fe_ix (fe_var 0) fe_int) (fe_var 1)) (fg_tup rfl (fgs_cons (fg_name (i := 3) Sc__law_with.nd) (fgs_cons (fg_name (i := 4) Sc__law_with.nd) (fgs_cons (fg_name (i := 5) Sc__law_with.nd) fgs_nil))))) (fss_one (fs_ret (fe_tup (fa_cons (fe_ix (fe_var 0) fe_int) (fa_cons (fe_bin oz_add (fe_bin oz_add (fe_slA (fe_ix (fe_var 0) fe_int) fo_no (fo_of (fe_var 1))) (fe_tup (fa_cons (fe_tup (fa_cons (fe_var 3) (fa_cons (fe_var 4) (fa_cons (fe_callTy cz_tup (by rfl) W.b_tuple (by decide +kernel) (fa_cons (fe_var 2) fa_nil)) fa_nil)))) fa_nil))) (fe_slA (fe_ix (fe_var 0) fe_int) (fo_of (fe_bin oz_add (fe_var 1) fe_int)) fo_no)) fa_nil))))))
abbrev N__law_box_right : List Str := ["_law_d", "_law_gear_so", "_law_at", "_law_own", "_law_back_here", "_law_some", "_law_part", "_law_name", "_law_held", "_law_moves", "_law_k", "_law_path", "_law_sign", "_law_one"]
def v__law_box_right : Sv := (sSeq (sAsg (pTup 3 (psCons (pName 7) (psCons (pName 8) (psCons (pName 9) psNil)))) (fBin opIx (fBin opIx (fVar 1) (fC (.int 1))) (fVar 2))) (sSeq (sSet 3 (fVal (fCall F_group (aCons (fVar 1) (aCons (fVar 7) aNil))))) (sSeq (sIf (tOrZ (tE (fBin opNe (fVal (fCall F_slots (aCons (fVar 1) (aCons (fVar 7) aNil)))) (fVar 8))) (tOrZ (tNotZ (tE (fVal (fCall F__law_closed (aCons (fVar 0) (aCons (fVar 8) (aCons (fVar 3) aNil))))))) (tNotZ (tE (fVal (fCall F__law_moved_right (aCons (fVar 0) (aCons (fVar 8) (aCons (fVar 3) aNil))))))))) (sRet (fC (.bl false))) sNx) (sSeq (sSet 4 (fLst (aLc (iTp (fVar 9)) (pTup 2 (psCons (pName 11) (psCons (pName 12) psNil))) tTrue (fTup (aCons (fVal (fCall F__law_back (aCons (fVar 11) aNil))) (aCons (fVar 12) aNil))) [11, 12]))) (sSeq (sSet 5 (fLst (aLc (iRng1 (aCons (fC (.int 3)) aNil)) (pName 10) tTrue (fVal (fCall F__law_pick (aCons (fVar 0) (aCons (fVar 3) aNil)))) [10]))) (sSeq (sIf (tE (fBin opNe (fVal (fCall F_group (aCons (fVal (fCall F__law_with (aCons (fVar 1) (aCons (fVar 2) (aCons (fVar 4) aNil))))) (aCons (fVar 7) aNil)))) (fVar 3))) (sRet (fC (.bl false))) sNx) (sSeq (sIf (tE (fBin opNe (fVal (fCall F_group (aCons (fVal (fCall F__law_with (aCons (fVar 1) (aCons (fVar 2) (aCons (fLst (fBinF opAddL (fSlA (fVar 5) oNo (oOf (fBin opSub (fC (.int 3)) (fCl clLen (aCons (fVar 9) aNil))))) (fLst (fClF clLst (aCons (fVar 9) aNil))))) aNil))))) (aCons (fVar 7) aNil)))) (fVar 3))) (sRet (fC (.bl false))) sNx) (sSeq (sSet 6 (fVal (fCall F_group (aCons (fVal (fCall F__law_with (aCons (fVar 1) (aCons (fVar 2) (aCons (fVar 5) aNil))))) (aCons (fVar 7) aNil))))) (sSeq (sIf (tE (fBin opNe (fLst (aLc (iTp (fVar 6)) (pName 13) (tE (fBin opNotIn (fVar 13) (fVar 3))) (fVar 13) [13])) (fLst (aLst aNil)))) (sRet (fC (.bl false))) sNx) (sRet (fBin opEq (fBin opMod (fCl clLen (aCons (fVar 3) aNil)) (fCl clLen (aCons (fVar 6) aNil))) (fC (.int 0)))))))))))))
def F__law_box_right : Fd := mkF 3 14 v__law_box_right
theorem len__law_box_right : LenF (["_law_d", "_law_gear_so", "_law_at"] : List Str).length F__law_box_right := fun ts st v s h => mkF_len ts st v s h
theorem Sc__law_box_right : FnScope N__law_box_right ["_law_d", "_law_gear_so", "_law_at"] (defScope (top 44)) := ⟨rfl, rfl, rfl, by decide +kernel, rfl, by decide +kernel, by decide +kernel⟩
theorem G__law_box_right (W : Wd P w K mg base) : FnG P w K mg base 8 W.a__law_box_right W.f__law_box_right ["_law_d", "_law_gear_so", "_law_at"] F__law_box_right := fn_ok W.D__law_box_right Sc__law_box_right fun cdv A outer s H E hgd rm => (fss_cons (fs_asg (fe_ix (fe_ix (fe_var 1) fe_int) (fe_var 2)) (fg_tup rfl (fgs_cons (fg_name (i := 7) Sc__law_box_right.nd) (fgs_cons (fg_name (i := 8) Sc__law_box_right.nd) (fgs_cons (fg_name (i := 9) Sc__law_box_right.nd) fgs_nil))))) (fss_cons (fs_set (i := 3) Sc__law_box_right.nd (fe_fn (fe_call ((G_group W).mono (by decide)) (len_group) hgd rm (by rfl) W.m_group W.k_group W.B_group (fa_cons (fe_var 1) (fa_cons (fe_var 7) fa_nil))))) (fss_cons (fs_if (ft_w (fw_or (ft_cmp (oz_ne (room_u1 rm)) (fe_fn (fe_call ((G_slots W).mono (by decide)) (len_slots) hgd rm (by rfl) W.m_slots W.k_slots W.B_slots (fa_cons (fe_var 1) (fa_cons (fe_var 7) fa_nil)))) (fe_var 8)) (fw_or (ft_not (ft_val (fe_fn (fe_call ((G__law_closed W).mono (by decide)) (len__law_closed) hgd rm (by rfl) W.m__law_closed W.k__law_closed W.B__law_closed (fa_cons (fe_var 0) (fa_cons (fe_var 8) (fa_cons (fe_var 3) fa_nil))))))) (fw_or1 (ft_not (ft_val (fe_fn (fe_call ((G__law_moved_right W).mono (by decide)) (len__law_moved_right) hgd rm (by rfl) W.m__law_moved_right W.k__law_moved_right W.B__law_moved_right (fa_cons (fe_var 0) (fa_cons (fe_var 8) (fa_cons (fe_var 3) fa_nil))))))))))) (fss_one (fs_ret fe_bl)) fss_nil) (fss_cons (fs_setLc (i := 4) (own := [(("_law_path" : Str), 11), (("_law_sign" : Str), 12)]) rfl Sc__law_box_right.nd (fi_tup (fe_var 9)) (blkOk_by (by kernel_rfl)) (fun _ _ _ _ _ => (fg_tup rfl (fgs_cons (fg_name (i := 11) Sc__law_box_right.nd) (fgs_cons (fg_name (i := 12) Sc__law_box_right.nd) fgs_nil)))) (fun _ _ _ _ _ => fts_nil) (fun _ _ _ _ _ => (fe_tup (fa_cons (fe_fn (fe_call ((G__law_back W).mono (by decide)) (len__law_back) hgd rm (by rfl) W.m__law_back W.k__law_back W.B__law_back (fa_cons (fe_var 11) fa_nil))) (fa_cons (fe_var 12) fa_nil))))) (fss_cons (fs_setLc (i := 5) (own := [(("_law_k" : Str), 10)]) rfl Sc__law_box_right.nd (fi_range1 (by rfl) W.b_range (fa_cons fe_int fa_nil)) (blkOk_by (by kernel_rfl)) (fun _ _ _ _ _ => (fg_name (i := 10) Sc__law_box_right.nd)) (fun _ _ _ _ _ => fts_nil) (fun _ _ _ _ _ => (fe_fn (fe_call ((G__law_pick W).mono (by decide)) (len__law_pick) hgd rm (by rfl) W.m__law_pick W.k__law_pick W.B__law_pick (fa_cons (fe_var 0) (fa_cons (fe_var 3) fa_nil)))))) (fss_cons (fs_if (ft_cmp (oz_ne (room_u1 rm)) (fe_fn (fe_call ((G_group W).mono (by decide)) (len_group) hgd rm (by rfl) W.m_group W.k_group W.B_group (fa_cons (fe_fn (fe_call ((G__law_with W).mono (by decide)) (len__law_with) hgd rm (by rfl) W.m__law_with W.k__law_with W.B__law_with (fa_cons (fe_var 1) (fa_cons (fe_var 2) (fa_cons (fe_var 4) fa_nil))))) (fa_cons (fe_var 7) fa_nil)))) (fe_var 3)) (fss_one (fs_ret fe_bl)) fss_nil) (fss_cons (fs_if (ft_cmp (oz_ne (room_u1 rm)) (fe_fn (fe_call ((G_group W).mono (by decide)) (len_group) hgd rm (by rfl) W.m_group W.k_group W.B_group (fa_cons (fe_fn (fe_call ((G__law_with W).mono (by decide)) (len__law_with) hgd rm (by rfl) W.m__law_with W.k__law_with W.B__law_with (fa_cons (fe_var 1) (fa_cons (fe_var 2) (fa_cons (fe_of_ff (ff_bin oz_addL (fe_slA (fe_var 5) fo_no (fo_of (fe_bin oz_sub fe_int (fe_callB cz_len (by rfl) W.b_len (by decide +kernel) (fa_cons (fe_var 9) fa_nil))))) (fe_of_ff (ff_callTy cz_lst (by rfl) W.b_list (by decide +kernel) (fa_cons (fe_var 9) fa_nil))))) fa_nil))))) (fa_cons (fe_var 7) fa_nil)))) (fe_var 3)) (fss_one (fs_ret fe_bl)) fss_nil) (fss_cons (fs_set (i := 6) Sc__law_box_right.nd (fe_fn (fe_call ((G_group W).mono (by decide)) (len_group) hgd rm (by rfl) W.m_group W.k_group W.B_group (fa_cons (fe_fn (fe_call ((G__law_with W).mono (by decide)) (len__law_with) hgd rm (by rfl) W.m__law_with W.k__law_with W.B__law_with (fa_cons (fe_var 1) (fa_cons (fe_var 2) (fa_cons (fe_var 5) fa_nil))))) (fa_cons (fe_var 7) fa_nil))))) (fss_cons (fs_if (ft_cmp (oz_ne (room_u1 rm)) (fe_of_ff (ff_lc (own := [(("_law_one" : Str), 13)]) rfl Sc__law_box_right.nd (fi_tup (fe_var 6)) (blkOk_by (by kernel_rfl)) (fun _ _ _ _ _ => (fg_name (i := 13) Sc__law_box_right.nd)) (fun _ _ _ _ _ => (fts_one (ft_cmp (oz_notIn (room_u rm)) (fe_var 13) (fe_var 3)))) (fun _ _ _ _ _ => (fe_var 13)))) (fe_of_ff (ff_lst fa_nil))) (fss_one (fs_ret fe_bl)) fss_nil) (fss_one (fs_ret (fe_cmp (oz_eq (room_u1 rm)) (fe_bin oz_mod (fe_callB cz_len (by rfl) W.b_len (by decide +kernel) (fa_cons (fe_var 3) fa_nil)) (fe_callB cz_len (by rfl) W.b_len (by decide +kernel) (fa_cons (fe_var 6) fa_nil))) fe_int))))))))))))
abbrev N_law : List Str := ["_law_script", "_law_d", "_law_turn", "_law_gear_so", "_law_shown", "_law_at"]
def v_law : Sv := (sSeq (sSet 1 (fVal (fCall F__law_start (aCons (fVar 0) aNil)))) (sSeq (sFor (iRng1 (aCons (fBin opAdd (fC (.int 2)) (fCl clMin2 (aCons (fC (.int 2)) (aCons (fCl clLen (aCons (fVar 0) aNil)) aNil)))) aNil)) (pName 2) (sSeq (sSet 3 (fVal (fCall F__law_gear (aCons (fVar 1) aNil)))) (sSeq (sSet 4 (fCl clRepr (aCons (fVar 3) aNil))) (sSeq (sFor (iRng1 (aCons (fCl clLen (aCons (fBin opIx (fVar 3) (fC (.int 1))) aNil)) aNil)) (pName 5) (sIf (tNotZ (tE (fVal (fCall F__law_box_right (aCons (fVar 1) (aCons (fVar 3) (aCons (fVar 5) aNil))))))) (sRet (fC (.bl false))) sNx)) (sIf (tE (fBin opNe (fCl clRepr (aCons (fVar 3) aNil)) (fVar 4))) (sRet (fC (.bl false))) sNx))))) (sRet (fC (.bl true)))))
def F_law : Fd := mkF 1 6 v_law
theorem Sc_law : FnScope N_law ["_law_script"] (defScope (top 45)) := ⟨rfl, rfl, rfl, by decide +kernel, rfl, by decide +kernel, by decide +kernel⟩
theorem G_law (W : Wd P w K mg base) : FnG P w K mg base 9 W.a_law W.f_law ["_law_script"] F_law := fn_ok W.D_law Sc_law fun cdv A outer s H E hgd rm => (fss_cons (fs_set (i := 1) Sc_law.nd (fe_fn (fe_call ((G__law_start W).mono (by decide)) (len__law_start) hgd rm (by rfl) W.m__law_start W.k__law_start W.B__law_start (fa_cons (fe_var 0) fa_nil)))) (fss_cons (fs_for PassesOwn.never rfl (fi_range1 (by rfl) W.b_range (fa_cons (fe_bin oz_add fe_int (fe_callB (cz_min2 rfl) (by rfl) W.b_min (by decide +kernel) (fa_cons fe_int (fa_cons (fe_callB cz_len (by rfl) W.b_len (by decide +kernel) (fa_cons (fe_var 0) fa_nil)) fa_nil)))) fa_nil)) (fg_name (i := 2) Sc_law.nd) (fss_cons (fs_set (i := 3) Sc_law.nd (fe_fn (fe_call ((G__law_gear W).mono (by decide)) (len__law_gear) hgd rm (by rfl) W.m__law_gear W.k__law_gear W.B__law_gear (fa_cons (fe_var 1) fa_nil)))) (fss_cons (fs_set (i := 4) Sc_law.nd (fe_callB (cz_repr hgd (room_u rm)) (by rfl) W.b_repr (by decide +kernel) (fa_cons (fe_var 3) fa_nil))) (fss_cons (fs_for PassesOwn.never rfl (fi_range1 (by rfl) W.b_range (fa_cons (fe_callB cz_len (by rfl) W.b_len (by decide +kernel) (fa_cons (fe_ix (fe_var 3) fe_int) fa_nil)) fa_nil)) (fg_name (i := 5) Sc_law.nd) (fss_one (fs_if (ft_not (ft_val (fe_fn (fe_call ((G__law_box_right W).mono (by decide)) (len__law_box_right) hgd rm (by rfl) W.m__law_box_right W.k__law_box_right W.B__law_box_right (fa_cons (fe_var 1) (fa_cons (fe_var 3) (fa_cons (fe_var 5) fa_nil))))))) (fss_one (fs_ret fe_bl)) fss_nil))) (fss_one (fs_if (ft_cmp (oz_ne (room_u1 rm)) (fe_callB (cz_repr hgd (room_u rm)) (by rfl) W.b_repr (by decide +kernel) (fa_cons (fe_var 3) fa_nil)) (fe_var 4)) (fss_one (fs_ret fe_bl)) fss_nil)))))) (fss_one (fs_ret fe_bl))))
end L2.Z.D
set_option Elab.async false
set_option linter.all false
set_option maxRecDepth 100000
set_option maxHeartbeats 1000000
set_option exponentiation.threshold 500
namespace L2.Z.D
open PySem PySem.Spec PyProof.Rows
theorem log2_lt {n : Int} {a : Nat} (h : n.natAbs < 2 ^ a) (ha : 0 < a) : n.natAbs.log2 < a := by
  rcases Nat.eq_zero_or_pos n.natAbs with e | e
  · rw [e]; simpa using ha
  · exact (Nat.log2_lt (by omega)).mpr h
theorem p400 : (2 : Nat) ^ 400 = 2582249878086908589655919172003011874329705792829223512830659356540647622016841194629645353280137831435903171972747493376 := by decide
theorem mulA {i j : Int} (h1 : i.natAbs < 2 ^ 400) (h2 : j.natAbs < 2 ^ 400) : opMulA (.int i) (.int j) = some (.int (i * j)) := by
  show (match opMul (.int i) (.int j) with | some z => some z | none => opMulS (.int i) (.int j)) = _
  have a := log2_lt h1 (by omega)
  have b := log2_lt h2 (by omega)
  have : opMul (.int i) (.int j) = some (.int (i * j)) := if_pos (by omega)
  rw [this]
theorem divI {i j : Int} (h : 0 < j) (h2 : j.natAbs < 2 ^ 400) : opDiv (.int i) (.int j) = some (.int (i / j)) := if_pos ⟨h, by have := log2_lt h2 (by omega); omega⟩
theorem modI {i j : Int} (h : 0 < j) : opMod (.int i) (.int j) = some (.int (i % j)) := if_pos h
theorem gtI (i j : Int) : opGt (.int i) (.int j) = some (.bl (decide (j < i))) := rfl
theorem geI (i j : Int) : opGe (.int i) (.int j) = some (.bl (decide (j ≤ i))) := rfl
theorem powI {i j : Int} (h1 : 0 ≤ j) (h2 : j ≤ 1000000) (h3 : i.natAbs < 18446744073709551616) : opPow (.int i) (.int j) = some (.int (i ^ j.toNat)) := if_pos ⟨h1, h2, h3⟩
theorem addL {a b : List T} (h : a.length + b.length ≤ 16777216) : opAddL (.lst a) (.lst b) = some (a ++ b) := if_pos h
/-- a while loop by an invariant whose number falls -/
theorem loopW_inv {c : Et} {f : Sv} (P : Nat → S → Prop) (Q : S → Prop) (h0 : ∀ s, P 0 s → ∃ s1, c s = .ok false s1 ∧ Q s1) (h1 : ∀ n s, P (n + 1) s → ∃ s1 s2, c s = .ok true s1 ∧ f s1 = .ok .nx s2 ∧ P n s2) : ∀ (n fuel : Nat) (s : S), P n s → n < fuel → ∃ s', loopW c f fuel s = .ok .nx s' ∧ Q s'
  | n, 0, s, _, l => absurd l (Nat.not_lt_zero _)
  | 0, fuel + 1, s, p, _ => by
    obtain ⟨s1, e, q⟩ := h0 s p
    refine ⟨s1, ?_, q⟩
    unfold loopW
    rw [e, Rbind_ok]
    rfl
  | n + 1, fuel + 1, s, p, l => by
    obtain ⟨s1, s2, e1, e2, p2⟩ := h1 n s p
    obtain ⟨s', e, q⟩ := loopW_inv P Q h0 h1 n fuel s2 p2 (by omega)
    refine ⟨s', ?_, q⟩
    unfold loopW
    rw [e1, Rbind_ok]
    show ((f s1).bind _) = _
    rw [e2, Rbind_ok]
    exact e
abbrev drL (a b d : Int) : O := .lst [.int a, .int b, .int d]
/-- the j-th thing of the store is drawn by, m draws at the most behind; all else is as in B -/
def Dw (j : Nat) (B : List O) (m : Nat) (st : List O) : Prop := ∃ a b d : Int, st = B.set j (drL a b d) ∧ j < B.length ∧ 0 ≤ b ∧ b ≤ m
variable {j : Nat} {B : List O}
theorem Dw.mono {m n : Nat} {st : List O} (h : Dw j B m st) (l : m ≤ n) : Dw j B n st := by
  obtain ⟨a, b, d, e, h1, h2, h3⟩ := h
  exact ⟨a, b, d, e, h1, h2, by omega⟩
end L2.Z.D
set_option Elab.async false
set_option linter.all false
set_option maxRecDepth 100000
set_option maxHeartbeats 1000000
namespace L2.Z.D
open PySem PySem.Spec PyProof.Rows
variable {j : Nat} {B : List O}
theorem eraseIdx_map' {α β : Type} (f : α → β) : ∀ (l : List α) (d : Nat), (l.map f).eraseIdx d = (l.eraseIdx d).map f
  | [], _ => rfl
  | _ :: _, 0 => rfl
  | a :: l, d + 1 => by
    show f a :: (l.map f).eraseIdx d = f a :: (l.eraseIdx d).map f
    rw [eraseIdx_map' f l d]
theorem fMut_ok {op : List T → List T → Option (List T × T)} {fp : Ep} {fa : Ea} {s s1 s2 : S} {p : Pl} {ts0 ts ts' xs : List T} {t : T} (h1 : fp s = .ok p s1) (h2 : s1.lstAt p = some ts0) (h3 : fa s1 = .ok xs s2) (h4 : s2.lstAt p = some ts) (h5 : op ts xs = some (ts', t)) :
    fMut op fp fa s = .ok t (s2.put (.lst ts') p) := by
  rw [x_fMut, h1]
  show (match s1.lstAt p with | some _ => _ | none => _) = _
  rw [h2]
  show ((fa s1).bind _) = _
  rw [h3]
  show (match s2.lstAt p with | some ts => _ | none => _) = _
  rw [h4]
  show (match op ts xs with | some (ts', t) => _ | none => _) = _
  rw [h5]
theorem sExpr_ok {f : Ev} {s s1 : S} {t : T} (h : f s = .ok t s1) : sExpr f s = .ok .nx s1 := by
  show ((f s).bind _) = _
  rw [h]
  rfl
theorem aOne_ok {f : Ev} {s s1 : S} {t : T} (h : f s = .ok t s1) : aCons f aNil s = .ok [t] s1 := by
  show ((f s).bind _) = _
  rw [h]
  rfl
theorem seq_ok {a b : Sv} {s s1 s2 : S} {fl : Fl} (h1 : a s = .ok .nx s1) (h2 : b s1 = .ok fl s2) : sSeq a b s = .ok fl s2 := by
  show ((a s).bind _) = _
  rw [h1]
  exact h2
theorem sIf_t {c : Et} {a b : Sv} {s s1 s2 : S} {fl : Fl} (h1 : c s = .ok true s1) (h2 : a s1 = .ok fl s2) : sIf c a b s = .ok fl s2 := by
  show ((c s).bind _) = _
  rw [h1]
  exact h2
theorem sIf_f {c : Et} {a b : Sv} {s s1 s2 : S} {fl : Fl} (h1 : c s = .ok false s1) (h2 : b s1 = .ok fl s2) : sIf c a b s = .ok fl s2 := by
  show ((c s).bind _) = _
  rw [h1]
  exact h2
theorem sSet_ok {i : Nat} {f : Ev} {s s1 : S} {t : T} (h : f s = .ok t s1) : sSet i f s = .ok .nx (s1.set i (.val t)) := by
  show ((f s).bind _) = _
  rw [h]
  rfl
theorem app_ok {i k : Nat} {f : Ev} {s s1 : S} {t : T} {ts0 ts : List T} (h1 : s.env[i]? = some (.own k)) (h2 : s.lo[k]? = some (.lst ts0)) (h3 : f s = .ok t s1) (h4 : s1.lo[k]? = some (.lst ts)) (hl : ts.length < 16777216) :
    sExpr (fMut muApp (pOwn i) (aCons f aNil)) s = .ok .nx { s1 with lo := s1.lo.set k (.lst (ts ++ [t])) } := by
  have p1 : pOwn i s = .ok (.own k) s := by rw [x_pOwn, h1]
  have l1 : s.lstAt (.own k) = some ts0 := by rw [x_lstAt, x_at1, h2]
  have l2 : s1.lstAt (.own k) = some ts := by rw [x_lstAt, x_at1, h4]
  have m : muApp ts [t] = some (ts ++ [t], T.non) := by rw [x_muApp, if_pos hl]
  exact sExpr_ok (fMut_ok p1 l1 (aOne_ok h3) l2 m)
theorem isStrs_map : ∀ l : List Str, isStrs (l.map T.str) = some l
  | [] => rfl
  | z :: l => by
    show (isStrs (l.map T.str)).map (z :: ·) = _
    rw [isStrs_map l]; rfl
end L2.Z.D
set_option Elab.async false
set_option linter.all false
set_option maxRecDepth 100000
set_option maxHeartbeats 1000000
namespace L2.Z.D
open PySem PySem.Spec PyProof.Rows
@[simp] theorem c_is_whole (n lo hi : Int) (s : S) : callF F_is_whole [.int n, .int lo, .int hi] s = .ok (.val (.bl (decide (lo ≤ n) && decide (n ≤ hi)))) s := by
  refine callF_pure rfl (fun st => ?_) s
  by_cases h : lo ≤ n <;> simp [v_is_whole, st0, h]
@[simp] theorem c_own_tuple (ts : List T) (a b : Int) (s : S) : callF F_own_tuple [.tup ts, .int a, .int b] s = .ok (.val (.bl (decide (a ≤ ts.length) && decide ((ts.length : Int) ≤ b)))) s := by
  refine callF_pure rfl (fun st => ?_) s
  by_cases h : a ≤ (ts.length : Int) <;> simp [v_own_tuple, st0, h]
theorem c_is_name {z : Str} (h : NameOk z) (s : S) : callF F_is_name [.str z] s = .ok (.val (.bl true)) s := by
  refine callF_pure rfl (fun st => ?_) s
  have l1 := h.lo; have l2 := h.hi
  have e : fAll (aLc (iStrZ (fVar 0)) (pName 1) tTrue (fBin opIn (fVar 1) (fC (.str ("abcdefghijklmnopqrstuvwxyz" : Str)))) [1]) ⟨[.val (.str z), .un], [], st⟩ = .ok (.bl true) ⟨[.val (.str z), .un], [], st⟩ := by
    refine fAll_true (ts := chT z) (by simp; omega) fun t m => ?_
    obtain ⟨c, hc, rfl⟩ := List.mem_map.mp m
    exact ⟨_, rfl, by simp [in_letters (h.cs c hc), wipeE], rfl, rfl, rfl⟩
  have q : clLen [.str z] = some (.int z.length) := if_pos (by omega)
  have l3 : (1 : Int) ≤ (z.length : Int) := by omega
  have l4 : (z.length : Int) ≤ 8 := by omega
  simp [v_is_name, st0, -x_fAll, e, q, l3, l4]
theorem zip_rise : ∀ {l : List Str}, Rise l → ∀ t ∈ zipT (l.map T.str) ((l.map T.str).drop 1), ∃ a b, t = .pr [.str a, .str b] ∧ strLt a b
  | [], _, t, m => by simp [zipT] at m
  | [_], _, t, m => by simp [zipT] at m
  | a :: b :: r, h, t, m => by
    simp only [List.map_cons, List.drop_succ_cons, List.drop_zero, zipT, List.zip_cons_cons, List.map_cons, List.mem_cons] at m
    rcases m with rfl | m
    · exact ⟨a, b, rfl, h.1⟩
    · refine zip_rise (l := b :: r) h.2 t ?_
      simp only [List.map_cons, List.drop_succ_cons, List.drop_zero, zipT]
      exact m
theorem cut_from (ts : List T) (n : Nat) : cutT ts (some (n : Int)) none = ts.drop n := by
  unfold cutT
  rw [HT.sIx_nat, HT.sIx_none, List.take_of_length_le (by rw [List.length_drop]; omega)]
  by_cases h : n ≤ ts.length
  · rw [Nat.min_eq_left h]
  · rw [Nat.min_eq_right (by omega), List.drop_length, List.drop_eq_nil_of_le (by omega)]
theorem cut_to (ts : List T) (n : Nat) : cutT ts none (some (n : Int)) = ts.take n := by
  unfold cutT
  rw [HT.sIx_nat, HT.sIx_none, List.drop_zero, Nat.sub_zero]
  by_cases h : n ≤ ts.length
  · rw [Nat.min_eq_left h]
  · rw [Nat.min_eq_right (by omega), List.take_length, List.take_of_length_le (by omega)]
@[simp] theorem cut_1 (ts : List T) : cutT ts (some 1) none = ts.drop 1 := cut_from ts 1
theorem lt_yes {a b : Str} (h : strLt a b) : opLt (.str a) (.str b) = some (.bl true) := by
  show some (T.bl (decide _)) = _
  rw [decide_eq_true (show a.cps.toList < b.cps.toList from h)]
theorem c_own_risingT {l : List Str} (h : Rise l) (s : S) : callF F_own_rising [.tup (l.map .str)] s = .ok (.val (.bl true)) s := by
  refine callF_pure rfl (fun st => ?_) s
  have e : fAll (aLc (iZipZ (aCons (fVar 0) (aCons (fSlA (fVar 0) (oOf (fC (.int 1))) oNo) aNil))) (pTup 2 (psCons (pName 1) (psCons (pName 2) psNil))) tTrue (fBin opLt (fVar 1) (fVar 2)) [1, 2]) ⟨[.val (.tup (l.map .str)), .un, .un], [], st⟩ = .ok (.bl true) ⟨[.val (.tup (l.map .str)), .un, .un], [], st⟩ := by
    refine fAll_true (ts := zipT (l.map T.str) ((l.map T.str).drop 1)) (by simp) fun t m => ?_
    obtain ⟨a, b, rfl, hl⟩ := zip_rise h t m
    exact ⟨_, rfl, by simp [lt_yes hl, wipeE], rfl, rfl, rfl⟩
  simp [v_own_rising, st0, -x_fAll, e]
theorem c_own_risingL {l : List Str} (h : Rise l) (s : S) : callF F_own_rising [.lst (l.map .str)] s = .ok (.val (.bl true)) s := by
  refine callF_pure rfl (fun st => ?_) s
  have e : fAll (aLc (iZipZ (aCons (fVar 0) (aCons (fSlA (fVar 0) (oOf (fC (.int 1))) oNo) aNil))) (pTup 2 (psCons (pName 1) (psCons (pName 2) psNil))) tTrue (fBin opLt (fVar 1) (fVar 2)) [1, 2]) ⟨[.val (.lst (l.map .str)), .un, .un], [], st⟩ = .ok (.bl true) ⟨[.val (.lst (l.map .str)), .un, .un], [], st⟩ := by
    refine fAll_true (ts := zipT (l.map T.str) ((l.map T.str).drop 1)) (by simp) fun t m => ?_
    obtain ⟨a, b, rfl, hl⟩ := zip_rise h t m
    exact ⟨_, rfl, by simp [lt_yes hl, wipeE], rfl, rfl, rfl⟩
  simp [v_own_rising, st0, -x_fAll, e]
theorem c_own_slot {sp : List Str} {q : Str × Str} (h : SlOk sp q) (s : S) : callF F_own_slot [.tup (sp.map .str), eSl q] s = .ok (.val (.bl true)) s := by
  refine callF_pure rfl (fun st => ?_) s
  have e : fAll (aLc (iTp (fVar 1)) (pName 2) tTrue (fIsi "str" (fVar 2)) [2]) ⟨[.val (.tup (sp.map .str)), .val (eSl q), .un], [], st⟩ = .ok (.bl true) ⟨[.val (.tup (sp.map .str)), .val (eSl q), .un], [], st⟩ := by
    refine fAll_true (ts := [.str q.1, .str q.2]) (by simp [eSl]) fun t m => ?_
    simp only [List.mem_cons, List.not_mem_nil, or_false] at m
    rcases m with rfl | rfl <;> exact ⟨_, rfl, by simp [wipeE], rfl, rfl, rfl⟩
  have a : opIn (.str q.1) (.tup (sp.map .str)) = some (.bl true) := inT_yes rfl (cls_strs sp) (Nat.zero_le _) (List.mem_map.mpr ⟨_, h.sp, rfl⟩)
  have b : opIn (.str q.2) (.tup [.str ("down" : Str), .str ("up" : Str)]) = some (.bl true) := inT_yes rfl rfl (Nat.zero_le _) (by
    rcases h.side with e | e <;> rw [e] <;> simp [upS, dnS])
  simp only [eSl] at e ⊢
  simp [v_own_slot, st0, -x_fAll, e, a, b]
/-- a set of whole numbers, none twice -/
theorem loopSc_ints {p : Pat} {f : Ev} {vs : List Nat} {W : List Slot} {lo : List O} {st : List O} (hp : ∀ t, ∃ s2, p t ⟨W, lo, st⟩ = .ok () s2 ∧ f s2 = .ok t s2 ∧ wipeE s2.env vs = W ∧ s2.lo = lo ∧ s2.st = st) :
    ∀ (o pre : List Nat) (s : S), (pre ++ o).Nodup → (pre ++ o).length < 50 → wipeE s.env vs = W → s.lo = lo → s.st = st →
      ∃ s', loopSc p tTrue f vs (pre.map fun (k : Nat) => T.int (k : Int)) (o.map fun (k : Nat) => T.int (k : Int)) s = .ok ((pre ++ o).map fun (k : Nat) => T.int (k : Int)) s' ∧ wipeE s'.env vs = W ∧ s'.lo = lo ∧ s'.st = st
  | [], pre, s, _, _, h1, h2, h3 => ⟨s, by simp [loopSc], h1, h2, h3⟩
  | k :: o, pre, s, nd, hl, h1, h2, h3 => by
    obtain ⟨s2, e1, e2, w1, w2, w3⟩ := hp (.int k)
    have hk : k ∉ pre := fun m => by
      have := (List.nodup_append.mp nd).2.2 k m k (List.mem_cons_self ..)
      exact this rfl
    obtain ⟨s', e, r⟩ := loopSc_ints hp o (pre ++ [k]) s2 (by simpa using nd) (by simpa using hl) w1 w2 w3
    refine ⟨s', ?_, r⟩
    have e0 := wipe_mk h1 h2 h3
    rw [List.map_cons]
    unfold loopSc
    rw [e0, e1, Rbind_ok, x_tTrue, Rbind_ok, if_pos rfl, e2, Rbind_ok, if_pos ⟨rfl, rfl, by
      simp only [List.length_append, List.length_cons, List.length_map] at hl ⊢
      omega⟩]
    have z : scAdd (pre.map fun (k : Nat) => T.int (k : Int)) (.int k) = (pre ++ [k]).map fun (k : Nat) => T.int (k : Int) := by
      unfold scAdd
      rw [if_neg, List.map_append]
      · rfl
      · intro q
        obtain ⟨t, m, d⟩ := List.any_eq_true.mp q
        obtain ⟨j, hj, rfl⟩ := List.mem_map.mp m
        have d : nk0 (.int (j : Int)) = nk0 (.int (k : Int)) := of_decide_eq_true d
        simp only [nk0, Option.some.injEq, NestedKey.num.injEq] at d
        have : j = k := by omega
        exact hk (this ▸ hj)
    rw [z]
    simpa using e
theorem c_own_order {held : List (Str × Str)} {o : List Nat} (h : OrdOk held o) (hf : held.length ≤ 4) (s : S) : callF F_own_order [.tup (held.map eSl), eOrd o] s = .ok (.val (.bl true)) s := by
  refine callF_pure rfl (fun st => ?_) s
  have hl := h.len
  have e1 : fAll (aLc (iTp (fVar 1)) (pName 2) tTrue (fVal (fCall F_is_whole (aCons (fVar 2) (aCons (fC (.int 0)) (aCons (fBin opSub (fCl clLen (aCons (fVar 0) aNil)) (fC (.int 1))) aNil))))) [2]) ⟨[.val (.tup (held.map eSl)), .val (eOrd o), .un, .un], [], st⟩ = .ok (.bl true) ⟨[.val (.tup (held.map eSl)), .val (eOrd o), .un, .un], [], st⟩ := by
    refine fAll_true (ts := o.map fun (k : Nat) => T.int (k : Int)) (by simp [eOrd]) fun t m => ?_
    obtain ⟨k, hk, rfl⟩ := List.mem_map.mp m
    have := h.lt k hk
    exact ⟨_, rfl, by simp [wipeE]; omega, rfl, rfl, rfl⟩
  have e2 : fLenSc (iTp (fVar 1)) (pName 2) tTrue (fVar 2) [2] ⟨[.val (.tup (held.map eSl)), .val (eOrd o), .un, .un], [], st⟩ = .ok (.int held.length) ⟨[.val (.tup (held.map eSl)), .val (eOrd o), .un, .un], [], st⟩ := by
    obtain ⟨s', e, w1, w2, w3⟩ := loopSc_ints (p := pName 2) (f := fVar 2) (vs := [2]) (W := [.val (.tup (held.map eSl)), .val (eOrd o), .un, .un]) (lo := []) (st := st) (fun t => ⟨_, rfl, by simp, rfl, rfl, rfl⟩) o [] ⟨[.val (.tup (held.map eSl)), .val (eOrd o), .un, .un], [], st⟩ h.nd (by simp; omega) rfl rfl rfl
    have e : loopSc (pName 2) tTrue (fVar 2) [2] [] (o.map fun (k : Nat) => T.int (k : Int)) ⟨[.val (.tup (held.map eSl)), .val (eOrd o), .un, .un], [], st⟩ = .ok (o.map fun (k : Nat) => T.int (k : Int)) s' := e
    unfold fLenSc
    simp only [x_iTp, x_fVar, eOrd, List.getElem?_cons_succ, List.getElem?_cons_zero, Rbind_ok]
    simp only [eOrd] at e w1
    rw [e, Rbind_ok]
    have : s'.rest ⟨[.val (.tup (held.map eSl)), .val (eOrd o), .un, .un], [], st⟩ [2] = ⟨[.val (.tup (held.map eSl)), .val (eOrd o), .un, .un], [], st⟩ := by
      unfold S.rest
      rw [rest_wipe (by rw [eOrd]; exact w1), w2, w3]
    simp only [eOrd] at this
    rw [this, List.length_map, hl]
  have e3 : fAll (aLc (iZipSZ (aCons (fVar 1) (aCons (fVar 0) aNil))) (pTup 2 (psCons (pName 2) (psCons (pName 3) psNil))) tTrue (fBin opEq (fBin opIx (fVar 0) (fVar 2)) (fVar 3)) [2, 3]) ⟨[.val (.tup (held.map eSl)), .val (eOrd o), .un, .un], [], st⟩ = .ok (.bl true) ⟨[.val (.tup (held.map eSl)), .val (eOrd o), .un, .un], [], st⟩ := by
    refine fAll_true (ts := zipT (o.map fun (k : Nat) => T.int (k : Int)) (held.map eSl)) (by simp [eOrd, hl]) fun t m => ?_
    obtain ⟨i, hi⟩ := List.mem_iff_getElem?.mp m
    obtain ⟨a, b, ha, hb, rfl⟩ := zipT_get hi
    rw [List.getElem?_map] at ha hb
    cases qa : o[i]? with
    | none => rw [qa] at ha; cases ha
    | some k =>
      cases qb : held[i]? with
      | none => rw [qb] at hb; cases hb
      | some q =>
        rw [qa] at ha; rw [qb] at hb
        cases ha; cases hb
        have z := h.at_ i k qa
        have z2 : (held.map eSl)[k]? = some (eSl q) := by rw [List.getElem?_map, z, qb]; rfl
        exact ⟨_, rfl, by simp [wipeE, x_ixN z2, opEq_cl (cl_eSl q) (cl_eSl q) (.inl (dep_mono (dep_eSl q) (by omega))), eqb_refl], rfl, rfl, rfl⟩
  simp only [eOrd] at e1 e2 e3 ⊢
  simp [v_own_order, st0, -x_fAll, e1, e2, e3, hl]
theorem c_own_move {held : List (Str × Str)} {m : List Nat × Int} (h : OrdOk held m.1) (hs : SgOk m.2) (hf : held.length ≤ 4) (s : S) : callF F_own_move [.tup (held.map eSl), eMv m] s = .ok (.val (.bl true)) s := by
  refine callF_pure rfl (fun st => ?_) s
  rcases hs with q | q <;> simp [v_own_move, st0, eMv, c_own_order h hf, q]
theorem c_own_box {sp : List Str} {b : Bx} (h : BxOk sp b) (s : S) : callF F_own_box [.tup (sp.map .str), eBx b] s = .ok (.val (.bl true)) s := by
  refine callF_pure rfl (fun st => ?_) s
  have l1 := h.few; have l2 := h.moves
  have e1 : fAll (aLc (iTp (fVar 3)) (pName 6) tTrue (fVal (fCall F_own_slot (aCons (fVar 0) (aCons (fVar 6) aNil)))) [6]) ⟨[.val (.tup (sp.map .str)), .val (eBx b), .val (.str b.name), .val (.tup (b.slots.map eSl)), .val (.tup (b.moves.map eMv)), .un, .un], [], st⟩ = .ok (.bl true) ⟨[.val (.tup (sp.map .str)), .val (eBx b), .val (.str b.name), .val (.tup (b.slots.map eSl)), .val (.tup (b.moves.map eMv)), .un, .un], [], st⟩ := by
    refine fAll_true (ts := b.slots.map eSl) (by simp) fun t m => ?_
    obtain ⟨q, hq, rfl⟩ := List.mem_map.mp m
    exact ⟨_, rfl, by simp [wipeE, c_own_slot (h.slots q hq)], rfl, rfl, rfl⟩
  have e2 : fAll (aLc (iTp (fVar 4)) (pName 5) tTrue (fVal (fCall F_own_move (aCons (fVar 3) (aCons (fVar 5) aNil)))) [5]) ⟨[.val (.tup (sp.map .str)), .val (eBx b), .val (.str b.name), .val (.tup (b.slots.map eSl)), .val (.tup (b.moves.map eMv)), .un, .un], [], st⟩ = .ok (.bl true) ⟨[.val (.tup (sp.map .str)), .val (eBx b), .val (.str b.name), .val (.tup (b.slots.map eSl)), .val (.tup (b.moves.map eMv)), .un, .un], [], st⟩ := by
    refine fAll_true (ts := b.moves.map eMv) (by simp) fun t m => ?_
    obtain ⟨q, hq, rfl⟩ := List.mem_map.mp m
    exact ⟨_, rfl, by simp [wipeE, c_own_move (h.mv q hq).1 (h.mv q hq).2 l1], rfl, rfl, rfl⟩
  simp only [eBx] at e1 e2 ⊢
  have k1 : (b.slots.length : Int) ≤ 4 := by omega
  have k2 : (b.moves.length : Int) ≤ 3 := by omega
  simp [v_own_box, st0, -x_fAll, e1, e2, c_is_name h.name, k1, k2]
theorem c_own_gear {g : Gr} (h : GrOk g) (s : S) : callF F_own_gear [eGr g] s = .ok (.val (.bl true)) s := by
  refine callF_pure rfl (fun st => ?_) s
  have l1 := h.one; have l2 := h.few; have l3 := h.bx
  have e1 : fAll (aLc (iTp (fVar 1)) (pName 4) tTrue (fVal (fCall F_is_name (aCons (fVar 4) aNil))) [4]) ⟨[.val (eGr g), .val (.tup (g.spaces.map .str)), .val (.tup (g.boxes.map eBx)), .un, .un], [], st⟩ = .ok (.bl true) ⟨[.val (eGr g), .val (.tup (g.spaces.map .str)), .val (.tup (g.boxes.map eBx)), .un, .un], [], st⟩ := by
    refine fAll_true (ts := g.spaces.map .str) (by simp) fun t m => ?_
    obtain ⟨q, hq, rfl⟩ := List.mem_map.mp m
    exact ⟨_, rfl, by simp [wipeE, c_is_name (h.sp q hq)], rfl, rfl, rfl⟩
  have e2 : fAll (aLc (iTp (fVar 2)) (pName 3) tTrue (fVal (fCall F_own_box (aCons (fVar 1) (aCons (fVar 3) aNil)))) [3]) ⟨[.val (eGr g), .val (.tup (g.spaces.map .str)), .val (.tup (g.boxes.map eBx)), .un, .un], [], st⟩ = .ok (.bl true) ⟨[.val (eGr g), .val (.tup (g.spaces.map .str)), .val (.tup (g.boxes.map eBx)), .un, .un], [], st⟩ := by
    refine fAll_true (ts := g.boxes.map eBx) (by simp) fun t m => ?_
    obtain ⟨q, hq, rfl⟩ := List.mem_map.mp m
    exact ⟨_, rfl, by simp [wipeE, c_own_box (h.ok q hq)], rfl, rfl, rfl⟩
  have e3 : aLc (iTp (fVar 2)) (pName 3) tTrue (fBin opIx (fVar 3) (fC (.int 0))) [3] ⟨[.val (eGr g), .val (.tup (g.spaces.map .str)), .val (.tup (g.boxes.map eBx)), .un, .un], [], st⟩ = .ok (g.boxes.map fun b => T.str b.name) ⟨[.val (eGr g), .val (.tup (g.spaces.map .str)), .val (.tup (g.boxes.map eBx)), .un, .un], [], st⟩ := mapS (l := g.boxes) (en := eBx) (fun b => T.str b.name) (by simp) fun b m => ⟨_, rfl, by simp [wipeE, eBx], rfl, rfl, rfl⟩
  have e4 : ∀ s, callF F_own_rising [.lst (g.boxes.map fun b => T.str b.name)] s = .ok (.val (.bl true)) s := fun s => by
    have := c_own_risingL h.rb s
    rw [List.map_map] at this
    exact this
  simp only [eGr] at e1 e2 e3 ⊢
  have k1 : (g.spaces.length : Int) ≤ 3 := by omega
  have k2 : (g.boxes.length : Int) ≤ 8 := by omega
  have k3 : (1 : Int) ≤ g.spaces.length := by omega
  simp [v_own_gear, st0, -x_fAll, e1, e2, e3, c_own_risingT h.rs, k1, k2, k3, e4]
theorem c_need_gear {g : Gr} (h : GrOk g) (s : S) : callF F_need_gear [eGr g] s = .ok (.val .non) s := by
  refine callF_pure0 rfl (fun st => ?_) s
  simp [v_need_gear, st0, c_own_gear h]
end L2.Z.D
set_option Elab.async false
set_option linter.all false
set_option maxRecDepth 100000
set_option maxHeartbeats 1000000
namespace L2.Z.D
open PySem PySem.Spec PyProof.Rows
theorem c_own_box_of {g : Gr} {nm : Str} {b : Bx} (h : boxOf g nm = some b) (s : S) : callF F_own_box_of [eGr g, .str nm] s = .ok (.val (eBx b)) s := by
  refine callF_pure rfl (fun st => ?_) s
  have key : ∀ (l : List Bx) (x : Slot), l.find? (fun b => decide (b.name = nm)) = some b → loopF (pName 2) (sIf (tAndZ (tE (fIsi "str" (fVar 1))) (tE (fBin opEq (fBin opIx (fVar 2) (fC (.int 0))) (fVar 1)))) (sRet (fVar 2)) sNx) (l.map eBx) ⟨[.val (eGr g), .val (.str nm), x], [], st⟩ = .ok (.ret (.val (eBx b))) ⟨[.val (eGr g), .val (.str nm), .val (eBx b)], [], st⟩ := by
    intro l
    induction l with
    | nil => intro x h; simp at h
    | cons c l ih =>
      intro x h
      rw [List.find?_cons] at h
      rw [List.map_cons]
      unfold loopF
      by_cases q : c.name = nm
      · simp only [q, decide_true] at h
        cases h
        simp [eBx, q]
      · simp only [q, decide_false] at h
        have := ih (.val (eBx c)) h
        simp [eBx, q] at this ⊢
        exact this
  have e := key g.boxes .un h
  simp only [eGr] at e ⊢
  simp [v_own_box_of, st0, e]
theorem c_own_slots {g : Gr} {nm : Str} {b : Bx} (h : boxOf g nm = some b) (s : S) : callF F_own_slots [eGr g, .str nm] s = .ok (.val (.tup (b.slots.map eSl))) s := by
  refine callF_pure rfl (fun st => ?_) s
  simp [v_own_slots, st0, c_own_box_of h, eBx]
theorem mv_ix {α : Type} {en : α → T} {row : List α} {k : Nat} {d : α} (h : k < row.length) : ixAt (row.map en) (k : Int) = some (en (row.getD k d)) := x_ixN (by rw [List.getElem?_map, getD_some h]; rfl)
theorem c_moved {α : Type} (en : α → T) (d : α) {row : List α} {o : List Nat} (h : ∀ k ∈ o, k < row.length) (s : S) : callF F_moved [.tup (row.map en), eOrd o] s = .ok (.val (.tup ((mvd d row o).map en))) s := by
  refine callF_pure rfl (fun st => ?_) s
  have e : aLc (iTp (fVar 1)) (pName 2) tTrue (fBin opIx (fVar 0) (fVar 2)) [2] ⟨[.val (.tup (row.map en)), .val (eOrd o), .un], [], st⟩ = .ok (o.map fun k => en (row.getD k d)) ⟨[.val (.tup (row.map en)), .val (eOrd o), .un], [], st⟩ :=
    mapS (l := o) (en := fun (k : Nat) => T.int (k : Int)) _ (by simp [eOrd]) fun k m => ⟨_, rfl, by simp [wipeE, mv_ix (d := d) (h k m)], rfl, rfl, rfl⟩
  simp only [eOrd] at e ⊢
  simp [v_moved, st0, e, mvd]
theorem moved_ord {held : List (Str × Str)} {c o : List Nat} (h1 : OrdOk held c) (h2 : OrdOk held o) (s : S) : callF F_moved [eOrd c, eOrd o] s = .ok (.val (eOrd (mvd 0 c o))) s :=
  c_moved (fun (k : Nat) => T.int (k : Int)) 0 (fun k m => by rw [h1.len]; exact h2.lt k m) s
theorem sg_small {a : Int} (h : SgOk a) : a.natAbs.log2 = 0 := by rcases h with rfl | rfl <;> decide
theorem mul_sg {a b : Int} (h1 : SgOk a) (h2 : SgOk b) : opMulA (.int a) (.int b) = some (.int (a * b)) := by
  show (match opMul (.int a) (.int b) with | some z => some z | none => opMulS (.int a) (.int b)) = _
  have : opMul (.int a) (.int b) = some (.int (a * b)) := by
    show (if _ then _ else _) = _
    rw [if_pos (by rw [sg_small h1, sg_small h2]; decide)]
  rw [this]
theorem range_eOrd (n : Nat) : T.tup (rngT 0 n) = eOrd (List.range n) := by
  unfold rngT eOrd
  simp
theorem keyOk_eMv {l : List El} {m : El} : keyOk (l.map eMv) (eMv m) = true := by
  unfold keyOk
  rw [key_eMv, Bool.true_and]
  refine List.all_eq_true.mpr fun t h => ?_
  obtain ⟨_, _, rfl⟩ := List.mem_map.mp h
  rfl
theorem nk_eMv {l : List El} : ∀ k ∈ l.map eMv, (nk0 k).isSome = true := fun k h => by
  obtain ⟨m, _, rfl⟩ := List.mem_map.mp h
  rw [nk0_eMv]; rfl
theorem mem_eMv {l : List El} {m : El} : eMv m ∈ l.map eMv ↔ m ∈ l := by
  constructor
  · intro h
    obtain ⟨x, hx, e⟩ := List.mem_map.mp h
    exact eMv_inj.mp e ▸ hx
  · exact fun h => List.mem_map.mpr ⟨m, h, rfl⟩
theorem find_eMv {l : List El} {m : El} (vs : List T) (hv : vs.length = l.length) : (dLook (l.map eMv) vs (eMv m)).isSome = decide (m ∈ l) := by
  by_cases h : m ∈ l
  · rw [decide_eq_true h]
    have : ∀ (l : List El) (vs : List T), vs.length = l.length → m ∈ l → (dLook (l.map eMv) vs (eMv m)).isSome = true := fun l => by
      induction l with
      | nil => intro vs _ h; simp at h
      | cons x l ih =>
        intro vs hv h
        cases vs with
        | nil => simp at hv
        | cons v vs =>
          rw [List.map_cons]
          unfold dLook
          split
          · rfl
          · rename_i n
            rcases List.mem_cons.mp h with rfl | h
            · exact absurd rfl n
            · exact ih vs (by simpa using hv) h
    exact this l vs hv h
  · rw [decide_eq_false h, dLook_none nk_eMv (fun q => h (mem_eMv.mp q))]; rfl
theorem getLast_cons {α : Type} {l : List α} {c : α} (h : l.getLast? = some c) : l[l.length - 1]? = some c := by rw [← List.getLast?_eq_getElem?]; exact h
theorem muPop0_eMv {l : List El} {c : El} (h : l.getLast? = some c) : muPop0 (l.map eMv) [] = some (l.dropLast.map eMv, eMv c) := by
  show (match (l.map eMv)[(l.map eMv).length - 1]? with | some t => some ((l.map eMv).dropLast, t) | none => none) = _
  rw [List.length_map, List.getElem?_map, getLast_cons h, List.map_dropLast]; rfl
theorem ne_nil_eMv (l : List El) : opNe (.lst (l.map eMv)) (.lst []) = some (.bl (!l.isEmpty)) := by
  rw [opNe_cl (by rw [cl_lst]; exact cls_map fun a _ => cl_eMv a) rfl (.inr (by decide))]
  cases l with
  | nil => rfl
  | cons x l => rfl
/-- one step of the program's own loop -/
theorem og_step {E : List Slot} (hE : E.length = 6) {st : List O} {held : List (Str × Str)} {c m : El} {a : List El × List El} (hc : OrdOk held c.1 ∧ SgOk c.2) (hm : OrdOk held m.1 ∧ SgOk m.2) (hf : held.length ≤ 4) (h : GI held a) (x5 : Slot) :
    (sSeq (sSet 12 (fTup (aCons (fVal (fCall F_moved (aCons (fVar 8) (aCons (fVar 10) aNil)))) (aCons (fBin opMulA (fVar 9) (fVar 11)) aNil)))) (sIf (fDIn true (fVar 12) (pOwn 6)) (sSeq (sDPutZ (pOwn 6) (fVar 12) (fC (.bl true))) (sExpr (fMut muApp (pOwn 7) (aCons (fVar 12) aNil)))) sNx))
      ⟨E ++ [.own 1, .own 0, .val (eOrd c.1), .val (.int c.2), .val (eOrd m.1), .val (.int m.2), x5], [.lst (a.2.map eMv), .dic (a.1.map eMv) (a.1.map fun _ => .bl true)], st⟩
      = .ok .nx ⟨E ++ [.own 1, .own 0, .val (eOrd c.1), .val (.int c.2), .val (eOrd m.1), .val (.int m.2), .val (eMv (reach c m))], [.lst ((gstep c a m).2.map eMv), .dic ((gstep c a m).1.map eMv) ((gstep c a m).1.map fun _ => .bl true)], st⟩ := by
  obtain ⟨e0, e1, e2, e3, e4, e5, rfl⟩ : ∃ e0 e1 e2 e3 e4 e5, E = [e0, e1, e2, e3, e4, e5] := by
    match E, hE with
    | [a, b, c, d, e, f], _ => exact ⟨a, b, c, d, e, f, rfl⟩
  have few := h.few hf
  have le := h.le
  have k1 := find_eMv (l := a.1) (m := reach c m) (a.1.map fun _ => T.bl true) (by simp)
  have k2 : T.tup [eOrd (mvd 0 c.1 m.1), .int (c.2 * m.2)] = eMv (reach c m) := rfl
  have k4 : keyOk (a.1.map eMv) (eMv (reach c m)) = true := keyOk_eMv
  by_cases q : reach c m ∈ a.1
  · have k3 : gstep c a m = a := by unfold gstep; rw [if_pos q]
    rw [decide_eq_true q] at k1
    obtain ⟨v, k1⟩ := Option.isSome_iff_exists.mp k1
    rw [k3]
    simp [moved_ord hc.1 hm.1, mul_sg hc.2 hm.2, k2, k1, k4]
  · have k3 : gstep c a m = (a.1 ++ [reach c m], a.2 ++ [reach c m]) := by unfold gstep; rw [if_neg q]
    have k5 : dPutT (a.1.map eMv) (a.1.map fun _ => T.bl true) (eMv (reach c m)) (.bl true) = ((a.1 ++ [reach c m]).map eMv, (a.1 ++ [reach c m]).map fun _ => T.bl true) := by
      rw [dPutT_new nk_eMv (fun z => q (mem_eMv.mp z))]; simp
    have k6 : a.1.length < 16777216 := by omega
    have k7 : a.2.length < 16777216 := by omega
    have k1 : dLook (a.1.map eMv) (a.1.map fun _ => T.bl true) (eMv (reach c m)) = none := dLook_none nk_eMv fun z => q (mem_eMv.mp z)
    rw [k3]
    simp [moved_ord hc.1 hm.1, mul_sg hc.2 hm.2, k2, k1, k4, k5, k6, k7]
/-- all steps of one turn -/
theorem og_steps {E : List Slot} (hE : E.length = 6) {st : List O} {held : List (Str × Str)} {c : El} (hc : OrdOk held c.1 ∧ SgOk c.2) (hf : held.length ≤ 4) {moves : List El} (hm : ∀ m ∈ moves, OrdOk held m.1 ∧ SgOk m.2) {a : List El × List El} (h : GI held a) (x3 x4 x5 : Slot) :
    ∃ y3 y4 y5, loopF (pTup 2 (psCons (pName 10) (psCons (pName 11) psNil))) (sSeq (sSet 12 (fTup (aCons (fVal (fCall F_moved (aCons (fVar 8) (aCons (fVar 10) aNil)))) (aCons (fBin opMulA (fVar 9) (fVar 11)) aNil)))) (sIf (fDIn true (fVar 12) (pOwn 6)) (sSeq (sDPutZ (pOwn 6) (fVar 12) (fC (.bl true))) (sExpr (fMut muApp (pOwn 7) (aCons (fVar 12) aNil)))) sNx)) (moves.map eMv)
      ⟨E ++ [.own 1, .own 0, .val (eOrd c.1), .val (.int c.2), x3, x4, x5], [.lst (a.2.map eMv), .dic (a.1.map eMv) (a.1.map fun _ => .bl true)], st⟩
      = .ok .nx ⟨E ++ [.own 1, .own 0, .val (eOrd c.1), .val (.int c.2), y3, y4, y5], [.lst ((gfold moves c a).2.map eMv), .dic ((gfold moves c a).1.map eMv) ((gfold moves c a).1.map fun _ => .bl true)], st⟩ := by
  obtain ⟨s', e, y3, y4, y5, z, _⟩ := loopF_fold (en := eMv) (p := pTup 2 (psCons (pName 10) (psCons (pName 11) psNil))) (f := sSeq (sSet 12 (fTup (aCons (fVal (fCall F_moved (aCons (fVar 8) (aCons (fVar 10) aNil)))) (aCons (fBin opMulA (fVar 9) (fVar 11)) aNil)))) (sIf (fDIn true (fVar 12) (pOwn 6)) (sSeq (sDPutZ (pOwn 6) (fVar 12) (fC (.bl true))) (sExpr (fMut muApp (pOwn 7) (aCons (fVar 12) aNil)))) sNx))
    (fun (a : List El × List El) s => ∃ x3 x4 x5, s = ⟨E ++ [.own 1, .own 0, .val (eOrd c.1), .val (.int c.2), x3, x4, x5], [.lst (a.2.map eMv), .dic (a.1.map eMv) (a.1.map fun _ => .bl true)], st⟩ ∧ GI held a) (gstep c) moves (fun m hmm a s ⟨x3, x4, x5, e, ga⟩ => by
      subst e
      obtain ⟨e0, e1, e2, e3, e4, e5, rfl⟩ : ∃ e0 e1 e2 e3 e4 e5, E = [e0, e1, e2, e3, e4, e5] := by
        match E, hE with
        | [a, b, c, d, e, f], _ => exact ⟨a, b, c, d, e, f, rfl⟩
      exact ⟨_, _, rfl, og_step (E := [e0, e1, e2, e3, e4, e5]) rfl hc (hm m hmm) hf ga x5, _, _, _, rfl, (ga.step hc (hm m hmm)).1⟩) a _ ⟨x3, x4, x5, rfl, h⟩
  exact ⟨y3, y4, y5, by rw [e, z]; rfl⟩
/-- the whole loop -/
theorem og_loop {E : List Slot} {moves : List El} {held : List (Str × Str)} (e0 e1 e2 e3 e4 : Slot) (hE : E = [e0, e1, e2, e3, e4, .val (.tup (moves.map eMv))]) {st : List O} (hf : held.length ≤ 4) (hm : ∀ m ∈ moves, OrdOk held m.1 ∧ SgOk m.2) : ∀ (n : Nat) (a : List El × List El), GI held a → 513 - (a.1.length - a.2.length) ≤ n → ∀ (x1 x2 x3 x4 x5 : Slot),
    ∃ y1 y2 y3 y4 y5, loopW (tE (fCmpP opNe (pOwn 7) (fLst (aLst aNil)))) (sSeq (sAsg (pTup 2 (psCons (pName 8) (psCons (pName 9) psNil))) (fMut muPop0 (pOwn 7) aNil)) (sFor (iTp (fVar 5)) (pTup 2 (psCons (pName 10) (psCons (pName 11) psNil))) (sSeq (sSet 12 (fTup (aCons (fVal (fCall F_moved (aCons (fVar 8) (aCons (fVar 10) aNil)))) (aCons (fBin opMulA (fVar 9) (fVar 11)) aNil)))) (sIf (fDIn true (fVar 12) (pOwn 6)) (sSeq (sDPutZ (pOwn 6) (fVar 12) (fC (.bl true))) (sExpr (fMut muApp (pOwn 7) (aCons (fVar 12) aNil)))) sNx)))) n
      ⟨E ++ [.own 1, .own 0, x1, x2, x3, x4, x5], [.lst (a.2.map eMv), .dic (a.1.map eMv) (a.1.map fun _ => .bl true)], st⟩
      = .ok .nx ⟨E ++ [.own 1, .own 0, y1, y2, y3, y4, y5], [.lst [], .dic ((gloop moves n a).map eMv) ((gloop moves n a).map fun _ => .bl true)], st⟩
  | 0, a, h, q, _, _, _, _, _ => by
    have := h.few hf
    omega
  | n + 1, a, h, q, x1, x2, x3, x4, x5 => by
    subst hE
    have le := h.le
    unfold loopW gloop
    have pl : pures (a.2.map eMv) = true := (cls_ok (cls_map fun a _ => cl_eMv a)).2
    cases hl : a.2.getLast? with
    | none =>
      have : a.2 = [] := List.getLast?_eq_none_iff.mp hl
      rw [this]
      refine ⟨x1, x2, x3, x4, x5, ?_⟩
      have z := ne_nil_eMv []
      simp only [List.map_nil] at z
      simp [fCmpP, z, pures, T.pure]
    | some c =>
      obtain ⟨h1, mc, hd⟩ := h.pop hl
      have hc := h.ok c mc
      obtain ⟨y3, y4, y5, e1'⟩ := og_steps (E := [e0, e1, e2, e3, e4, .val (.tup (moves.map eMv))]) rfl (st := st) hc hf hm h1 x3 x4 x5
      have h2 := GI.fold hc hm h1
      have h22 := h2.2
      dsimp only at h22
      obtain ⟨z1, z2, z3, z4, z5, e2'⟩ := og_loop (E := [e0, e1, e2, e3, e4, .val (.tup (moves.map eMv))]) e0 e1 e2 e3 e4 rfl (st := st) hf hm n (gfold moves c (a.1, a.2.dropLast)) h2.1 (by omega) (.val (eOrd c.1)) (.val (.int c.2)) y3 y4 y5
      refine ⟨z1, z2, z3, z4, z5, ?_⟩
      dsimp only
      rw [← e2']
      have z := ne_nil_eMv a.2
      have ne : a.2.isEmpty = false := by
        cases q : a.2 with
        | nil => rw [q] at hl; simp at hl
        | cons x l => rfl
      rw [ne] at z
      have pp := muPop0_eMv hl
      have e1'' := e1'
      simp only [List.cons_append, List.nil_append] at e1'' ⊢
      simp [fCmpP, z, pl, pures, T.pure, pp, eMv, -List.map_dropLast, e1'']
theorem still_eq (n : Nat) : T.tup [.tup (rngT 0 n), .int 1] = eMv (stillO n) := by rw [range_eOrd]; rfl
theorem c_own_group {g : Gr} {nm : Str} {b : Bx} (h : boxOf g nm = some b) (hg : GrOk g) (s : S) : callF F_own_group [eGr g, .str nm] s = .ok (.val (.tup (sortT ((grp b).map eMv)))) s := by
  refine callF_pure rfl (fun st => ?_) s
  have bo := hg.ok b (boxOf_mem h).1
  have hf := bo.few
  obtain ⟨y1, y2, y3, y4, y5, e⟩ := og_loop (E := [.val (eGr g), .val (.str nm), .val (eMv (stillO b.slots.length)), .val (.str b.name), .val (.tup (b.slots.map eSl)), .val (.tup (b.moves.map eMv))]) _ _ _ _ _ rfl (st := st) hf bo.mv 1000000 ([stillO b.slots.length], [stillO b.slots.length]) (gi_start b.slots) (by simp) .un .un .un .un .un
  have e : sWhile 1000000 _ _ _ = _ := e
  have fw := grp_few bo
  have k1 : (-1000000 : Int) ≤ b.slots.length := by omega
  have k2 : (b.slots.length : Int) ≤ 1000000 := by omega
  have k3 : isTupT (eMv (stillO b.slots.length)) = true := rfl
  have k4 : (nkey (eMv (stillO b.slots.length))).isSome = true := by
    have := key_eMv (stillO b.slots.length)
    have this : (isTupT (eMv (stillO b.slots.length)) && (nkey (eMv (stillO b.slots.length))).isSome) = true := this
    rw [k3, Bool.true_and] at this
    exact this
  have k5 : srtOk ((grp b).map eMv) = true := srtOk_eMv (by omega)
  simp only [List.cons_append, List.nil_append, List.map_cons, List.map_nil] at e
  have gb : gloop b.moves 1000000 ([stillO b.slots.length], [stillO b.slots.length]) = grp b := rfl
  rw [gb] at e
  have bx : eBx b = .tup [.str b.name, .tup (b.slots.map eSl), .tup (b.moves.map eMv)] := rfl
  simp [v_own_group, st0, c_own_box_of h, bx, k1, k2, still_eq, k3, k4, e, k5]
end L2.Z.D
set_option Elab.async false
set_option linter.all false
set_option maxRecDepth 100000
set_option maxHeartbeats 1000000
namespace L2.Z.D
open PySem PySem.Spec PyProof.Rows
structure JB (m : Nat) (acc : List (Str × List Sl2)) : Prop where
  l : acc.length ≤ m
  e : ∀ e ∈ acc, e.2.length ≤ m
theorem JB.mono {m k : Nat} {acc : List (Str × List Sl2)} (h : JB m acc) (l : m ≤ k) : JB k acc := ⟨Nat.le_trans h.l l, fun e q => Nat.le_trans (h.e e q) l⟩
theorem JB.add {m : Nat} {acc : List (Str × List Sl2)} (h : JB m acc) (p : Str × Sl2) : JB (m + 1) (addP acc p) := by
  cases q : keyAt acc p.1 with
  | none =>
    rw [addP_new q]
    refine ⟨by simp [h.l], fun e hm => ?_⟩
    rcases List.mem_append.mp hm with hm | hm
    · exact Nat.le_succ_of_le (h.e e hm)
    · rw [List.mem_singleton.mp hm]; simp
  | some j =>
    obtain ⟨e0, h1, h2, h3⟩ := addP_old q
    rw [h3]
    refine ⟨by rw [List.length_set]; exact Nat.le_succ_of_le h.l, fun e hm => ?_⟩
    rcases List.mem_or_eq_of_mem_set hm with hm | rfl
    · exact Nat.le_succ_of_le (h.e e hm)
    · have := h.e e0 (List.mem_of_getElem? h1)
      simp only [List.length_append, List.length_cons, List.length_nil]
      omega
theorem JB.fold {m : Nat} : ∀ (M : List (Str × Sl2)) {acc : List (Str × List Sl2)}, JB m acc → JB (m + M.length) (plcL M acc)
  | [], acc, h => h
  | p :: M, acc, h => by
    have := JB.fold M (h.add p)
    rw [List.length_cons]
    exact this.mono (by omega)
end L2.Z.D
set_option Elab.async false
set_option linter.all false
set_option maxRecDepth 100000
set_option maxHeartbeats 1000000
namespace L2.Z.D
open PySem PySem.Spec PyProof.Rows
end L2.Z.D
set_option Elab.async false
set_option linter.all false
set_option maxRecDepth 100000
set_option maxHeartbeats 1000000
namespace L2.Z.D
open PySem PySem.Spec PyProof.Rows
def unS : T → Str
  | .str z => z
  | _ => ""
theorem rise_of : ∀ {l : List Str}, l.Pairwise strLt → Rise l
  | [], _ => trivial
  | [_], _ => trivial
  | a :: b :: r, h => by
    obtain ⟨h1, h2⟩ := List.pairwise_cons.mp h
    exact ⟨h1 b (List.mem_cons_self ..), rise_of h2⟩
theorem strs_of {l : List T} (h : ∀ t ∈ l, ∃ z, t = .str z) : l = (l.map unS).map .str := by
  rw [List.map_map]
  induction l with
  | nil => rfl
  | cons t l ih =>
    obtain ⟨z, rfl⟩ := h t (List.mem_cons_self ..)
    rw [List.map_cons, ← ih fun u m => h u (List.mem_cons_of_mem _ m)]
    rfl
theorem sort_strs {zs : List Str} (nd : zs.Nodup) : ∃ ys : List Str, ys.Perm zs ∧ sortT (zs.map .str) = ys.map .str ∧ Rise ys := by
  have tl := PySem.W.sortLe_total (PyProof.Rows.listOrd PyProof.Rows.itemOrd) false (fun b : T => PySem.W.keyToks (toD b))
  have pw : (sortT (zs.map .str)).Pairwise fun a b => PySem.W.dataLe false toD a b = true := PySem.W.sort_pairwise tl _
  have pm : (sortT (zs.map .str)).Perm (zs.map .str) := sortT_perm' _
  have em := strs_of (l := sortT (zs.map .str)) fun t m => by
    obtain ⟨z, _, rfl⟩ := List.mem_map.mp (pm.mem_iff.mp m)
    exact ⟨z, rfl⟩
  obtain ⟨ys, hy⟩ : ∃ ys, ys = (sortT (zs.map .str)).map unS := ⟨_, rfl⟩
  rw [← hy] at em
  have py : ys.Perm zs := by
    have := pm.map unS
    rw [← hy, List.map_map] at this
    have e : (unS ∘ T.str) = id := rfl
    rwa [e, List.map_id] at this
  refine ⟨ys, py, em, rise_of ?_⟩
  rw [em, List.pairwise_map] at pw
  have nd' : ys.Nodup := py.nodup_iff.mpr nd
  refine (pw.and nd').imp fun {a b} h => ?_
  obtain ⟨h1, h2⟩ := h
  rw [dataLe_str] at h1
  have h1 : ¬ b.cps.toList < a.cps.toList := by simpa using h1
  by_cases h : a.cps.toList < b.cps.toList
  · exact h
  · exact absurd (PySem.W.str_of_cps (List.le_antisymm (List.not_lt.mp h1) (List.not_lt.mp h))) h2
theorem rise_pw : ∀ {l : List Str}, Rise l → l.Pairwise strLt
  | [], _ => .nil
  | [_], _ => List.pairwise_singleton ..
  | a :: b :: r, ⟨h1, h2⟩ => by
    have ih := rise_pw h2
    refine List.pairwise_cons.mpr ⟨fun x m => ?_, ih⟩
    rcases List.mem_cons.mp m with rfl | m
    · exact h1
    · exact List.lt_trans h1 ((List.pairwise_cons.mp ih).1 x m)
theorem rise_nd {l : List Str} (h : Rise l) : l.Nodup := (rise_pw h).imp fun {a b} h e => by
  subst e
  exact List.lt_irrefl _ h
theorem boxOf_of {g : Gr} (hg : GrOk g) {b : Bx} (m : b ∈ g.boxes) : boxOf g b.name = some b := by
  have nd := rise_nd hg.rb
  unfold boxOf
  generalize g.boxes = l at m nd
  induction l with
  | nil => cases m
  | cons c l ih =>
    obtain ⟨n1, n2⟩ := List.nodup_cons.mp (show (c.name :: l.map (·.name)).Nodup from nd)
    rw [List.find?_cons]
    rcases List.mem_cons.mp m with rfl | m
    · simp
    · have : c.name ≠ b.name := fun e => n1 (List.mem_map.mpr ⟨b, m, e.symm⟩)
      rw [decide_eq_false this]
      exact ih m n2
theorem ddA_mem {a : List Str} {x z : Str} : z ∈ ddAdd a x ↔ z ∈ a ∨ z = x := by
  unfold ddAdd
  split
  · rename_i h
    obtain ⟨y, y1, y2⟩ := List.any_eq_true.mp h
    have : y = x := eq_of_beq y2
    subst this
    exact ⟨.inl, fun q => q.elim id fun e => e ▸ y1⟩
  · simp
theorem ddA_nd {a : List Str} {x : Str} (h : a.Nodup) : (ddAdd a x).Nodup := by
  unfold ddAdd
  split
  · exact h
  · rename_i q
    refine List.nodup_append.mpr ⟨h, by simp, fun y hy z hz e => q ?_⟩
    simp at hz
    exact List.any_eq_true.mpr ⟨y, hy, by rw [e, hz]; exact beq_self_eq_true x⟩
theorem ddF : ∀ (l a : List Str), a.Nodup → (l.foldl ddAdd a).Nodup ∧ ∀ z, z ∈ l.foldl ddAdd a ↔ z ∈ a ∨ z ∈ l
  | [], a, h => ⟨h, fun z => by simp⟩
  | x :: l, a, h => by
    obtain ⟨q1, q2⟩ := ddF l (ddAdd a x) (ddA_nd h)
    refine ⟨q1, fun z => ?_⟩
    rw [List.foldl_cons, q2, ddA_mem, List.mem_cons, or_assoc]
theorem ddS_nd (l : List Str) : (ddS l).Nodup := (ddF l [] .nil).1
theorem ddS_mem {l : List Str} {z : Str} : z ∈ ddS l ↔ z ∈ l := by
  have := (ddF l [] .nil).2 z
  simpa [ddS] using this
end L2.Z.D
set_option Elab.async false
set_option linter.all false
set_option maxRecDepth 100000
set_option maxHeartbeats 3200000
namespace L2.Z
open PySem PySem.Spec PyProof.Rows
def undo : Stp → Stp
  | .swap i j => .swap i j
  | .move i o sg => .move i (invO o) sg
  | .name a b => .name b a
def back (ps : List Stp) : List Stp := (ps.map undo).reverse
end L2.Z
set_option Elab.async false
set_option linter.all false
set_option maxRecDepth 100000
set_option maxHeartbeats 3200000
namespace L2.Z
open PySem PySem.Spec PyProof.Rows
theorem sortT_permT {l m : List T} (p : l.Perm m) (inj : ∀ x ∈ l, ∀ y ∈ l, PySem.W.keyToks (toD x) = PySem.W.keyToks (toD y) → x = y) : sortT l = sortT m := by
  have tl := PySem.W.sortLe_total (PyProof.Rows.listOrd PyProof.Rows.itemOrd) false (fun b : T => PySem.W.keyToks (toD b))
  refine List.Perm.eq_of_pairwise (le := fun a b => PySem.W.dataLe false toD a b = true) (fun a b ha hb h1 h2 => ?_) (PySem.W.sort_pairwise tl _) (PySem.W.sort_pairwise tl _) ((List.mergeSort_perm _ _).trans (p.trans (List.mergeSort_perm _ _).symm))
  have ma := (List.mergeSort_perm _ _).mem_iff.mp ha
  have mb := p.symm.mem_iff.mp ((List.mergeSort_perm _ _).mem_iff.mp hb)
  refine inj a ma b mb ((PyProof.Rows.listOrd PyProof.Rows.itemOrd).total _ _ ?_ ?_)
  · have h2 : (!PyProof.Rows.lexLt PyProof.Rows.itemOrd (PySem.W.keyToks (toD a)) (PySem.W.keyToks (toD b))) = true := h2
    simpa using h2
  · have h1 : (!PyProof.Rows.lexLt PyProof.Rows.itemOrd (PySem.W.keyToks (toD b)) (PySem.W.keyToks (toD a))) = true := h1
    simpa using h1
/-- the same names are free, in the same slots; as many slots -/
structure Same (g : Gr) (t u : Tm) : Prop where
  one : ∀ n x, heldL (occ g t) n = [x] ↔ heldL (occ g u) n = [x]
  len : (occ g t).length = (occ g u).length
  box : (t.map (·.1)).Perm (u.map (·.1))
theorem Same.refl (g : Gr) (t : Tm) : Same g t t := ⟨fun _ _ => Iff.rfl, rfl, .refl _⟩
theorem Same.trans {g : Gr} {t u v : Tm} (a : Same g t u) (b : Same g u v) : Same g t v := ⟨fun n x => (a.one n x).trans (b.one n x), a.len.trans b.len, a.box.trans b.box⟩
def total (acc : List (Str × List Sl2)) : Nat := (acc.map fun e => e.2.length).sum
end L2.Z
set_option Elab.async false
set_option linter.all false
set_option maxRecDepth 100000
set_option maxHeartbeats 1000000
set_option exponentiation.threshold 500
namespace L2.Z.D
open PySem PySem.Spec PyProof.Rows
end L2.Z.D
set_option Elab.async false
set_option linter.all false
set_option maxRecDepth 100000
set_option maxHeartbeats 1000000
set_option exponentiation.threshold 500
namespace L2.Z.D
open PySem PySem.Spec PyProof.Rows
structure Sm (b : Nat) (t : T) : Prop where
  len : (toD t).shown.length ≤ b
  ok : (toD t).showable = true
theorem Sm.mono {a b : Nat} {t : T} (h : Sm a t) (l : a ≤ b) : Sm b t := ⟨Nat.le_trans h.len l, h.ok⟩
theorem sm_nat {n : Nat} (h : n < 10 ^ 4) : Sm 4 (.int (n : Int)) := by
  refine ⟨?_, ?_⟩
  · have : (toD (.int (n : Int))).shown = ((toString (n : Int) : String) : Str) := by rw [toD, PyData.shown]
    rw [this]
    exact PyProof.Rows.toString_length_le (by omega) (by omega) (by omega)
  · rw [toD, PyData.showable, decide_eq_true_eq, Int.natAbs_natCast]
    rcases Nat.eq_zero_or_pos n with e | e
    · subst e; decide
    · have : n.log2 < 14 := (Nat.log2_lt (by omega)).mpr (by omega)
      omega
theorem sm_sg {n : Int} (h : SgOk n) : Sm 4 (.int n) := by
  rcases h with rfl | rfl
  · exact sm_nat (n := 1) (by omega)
  · refine ⟨?_, ?_⟩
    · have : (toD (.int (-1))).shown = ((toString (-1 : Int) : String) : Str) := by rw [toD, PyData.shown]
      rw [this]
      decide
    · rw [toD, PyData.showable]; decide
theorem sm_str {z : Str} (h : z.length ≤ 8) (hc : ∀ c ∈ z.cps.toList, c < 16 ^ 8) : Sm 82 (.str z) := by
  refine ⟨?_, ?_⟩
  · rw [toD, PyData.shown]
    have := StrLaws.reprText_len z hc
    omega
  · rw [toD, PyData.showable]
theorem sm_name {z : Str} (h : NameOk z) : Sm 82 (.str z) := sm_str h.hi fun c m => by
  have := h.cs c m
  simp only [lowC, Bool.and_eq_true, decide_eq_true_eq] at this
  omega
theorem piled_all {b : Nat} : ∀ {ts : List T}, (∀ t ∈ ts, Sm b t) → piled (PyData.shownAll (toDs ts)) ≤ ts.length * (b + 2) ∧ PyData.showableAll (toDs ts) = true ∧ (PyData.shownAll (toDs ts)).length = ts.length
  | [], _ => by rw [toDs, PyData.shownAll, PyData.showableAll]; exact ⟨Nat.zero_le _, rfl, rfl⟩
  | t :: ts, h => by
    obtain ⟨h1, h2, h3⟩ := piled_all fun u m => h u (List.mem_cons_of_mem _ m)
    obtain ⟨a, b⟩ := h t (List.mem_cons_self ..)
    rw [toDs, PyData.shownAll, PyData.showableAll, piled_cons, List.length_cons, List.length_cons, Nat.succ_mul, b, h2, h3]
    exact ⟨by omega, rfl, rfl⟩
theorem sm_tup {b : Nat} {ts : List T} (h : ∀ t ∈ ts, Sm b t) : Sm (4 + ts.length * (b + 2)) (.tup ts) := by
  obtain ⟨h1, h2, h3⟩ := piled_all h
  refine ⟨?_, by rw [toD, PyData.showable]; exact h2⟩
  rw [toD, PyData.shown]
  unfold tupleText
  rw [strLen_append, strLen_append]
  have e1 : ((("(" : String) : Str)).length = 1 := rfl
  have e3 : (((if (PyData.shownAll (toDs ts)).length == 1 then ",)" else ")" : String) : Str)).length ≤ 2 := by split <;> decide
  rw [e1]
  by_cases e : PyData.shownAll (toDs ts) = []
  · rw [e] at e3 ⊢
    have : (Str.join ", " []).length = 0 := rfl
    rw [this]
    omega
  · have := join_length_add _ e
    omega
theorem sm_map {α : Type} {f : α → T} {b : Nat} {l : List α} (h : ∀ a ∈ l, Sm b (f a)) : ∀ t ∈ l.map f, Sm b t := fun t m => by
  obtain ⟨a, ma, rfl⟩ := List.mem_map.mp m
  exact h a ma
theorem sm_eSl {sp : List Str} (hs : ∀ z ∈ sp, NameOk z) {q : Str × Str} (h : SlOk sp q) : Sm 172 (eSl q) := by
  have h2 : Sm 82 (.str q.2) := by
    rcases h.side with e | e <;> rw [e]
    · exact sm_str (by decide) (by decide)
    · exact sm_str (by decide) (by decide)
  refine (sm_tup (b := 82) fun t m => ?_).mono (by simp)
  simp only [List.mem_cons, List.not_mem_nil, or_false] at m
  rcases m with rfl | rfl
  · exact sm_name (hs _ h.sp)
  · exact h2
theorem sm_eOrd {held : List (Str × Str)} {o : List Nat} (h : OrdOk held o) (hl : held.length ≤ 4) : Sm 28 (eOrd o) := by
  refine (sm_tup (b := 4) (sm_map fun k mk => sm_nat (by have := h.lt k mk; omega))).mono ?_
  rw [List.length_map, h.len]
  omega
theorem sm_eMv {held : List (Str × Str)} {m : List Nat × Int} (h : OrdOk held m.1 ∧ SgOk m.2) (hl : held.length ≤ 4) : Sm 64 (eMv m) := by
  refine (sm_tup (b := 28) fun t mt => ?_).mono (by simp)
  simp only [List.mem_cons, List.not_mem_nil, or_false] at mt
  rcases mt with rfl | rfl
  · exact sm_eOrd h.1 hl
  · exact (sm_sg h.2).mono (by omega)
theorem sm_eBx {sp : List Str} (hs : ∀ z ∈ sp, NameOk z) {b : Bx} (h : BxOk sp b) : Sm 2110 (eBx b) := by
  refine (sm_tup (b := 700) fun t mt => ?_).mono (by simp)
  simp only [List.mem_cons, List.not_mem_nil, or_false] at mt
  have f := h.few
  have g := h.moves
  rcases mt with rfl | rfl | rfl
  · exact (sm_name h.name).mono (by omega)
  · exact (sm_tup (sm_map fun q mq => sm_eSl hs (h.slots q mq))).mono (by rw [List.length_map]; omega)
  · exact (sm_tup (sm_map fun q mq => sm_eMv (h.mv q mq) f)).mono (by rw [List.length_map]; omega)
theorem sm_eGr {g : Gr} (h : GrOk g) : Sm 33808 (eGr g) := by
  refine (sm_tup (b := 16900) fun t mt => ?_).mono (by simp)
  simp only [List.mem_cons, List.not_mem_nil, or_false] at mt
  have a := h.few
  have b := h.bx
  rcases mt with rfl | rfl
  · exact (sm_tup (sm_map fun z mz => sm_name (h.sp z mz))).mono (by rw [List.length_map]; omega)
  · exact (sm_tup (sm_map fun q mq => sm_eBx h.sp (h.ok q mq))).mono (by rw [List.length_map]; omega)
theorem repr_tup {b : Nat} {ts : List T} (h : Sm b (.tup ts)) (hb : b ≤ 16777216) (hc : cls ts = true) (hd : (T.tup ts).dep ≤ 100) : clRepr [.tup ts] = some (.str (toD (.tup ts)).shown) := by
  have c := (cl_ok (t := .tup ts) (by simpa using hc)).1
  exact if_pos ⟨c, h.ok, hd, Nat.le_trans h.len hb⟩
end L2.Z.D
set_option Elab.async false
set_option linter.all false
set_option maxRecDepth 100000
set_option maxHeartbeats 1000000
set_option exponentiation.threshold 500
namespace L2.Z.D
open PySem PySem.Spec PyProof.Rows
end L2.Z.D
set_option Elab.async false
set_option linter.all false
set_option maxRecDepth 100000
set_option maxHeartbeats 2000000
set_option exponentiation.threshold 500
namespace L2.Z.D
open PySem PySem.Spec PyProof.Rows
def k8 : List T := [.str ("cells" : Str), .str ("spot" : Str), .str ("stock" : Str), .str ("mixed" : Str)]
abbrev drO (cells : List Int) (a b c : Int) : O := .dic k8 [.lst (cells.map .int), .int a, .int b, .int c]
/-- the 0th thing of the store is drawn by, m draws at the most behind; all else is as in B -/
def Dq (B : List O) (m : Nat) (st : List O) : Prop := ∃ (cells : List Int) (a b c : Int), st = B.set 0 (drO cells a b c) ∧ 0 < B.length ∧ cells ≠ [] ∧ 0 ≤ a ∧ a ≤ m ∧ 0 ≤ c ∧ c ≤ m
theorem Dq.mono {B : List O} {m n : Nat} {st : List O} (h : Dq B m st) (l : m ≤ n) : Dq B n st := by
  obtain ⟨cells, a, b, c, e, h1, h2, h3, h4, h5, h6⟩ := h
  exact ⟨cells, a, b, c, e, h1, h2, h3, by omega, h5, by omega⟩
theorem q8a : (("cells" : Str) = ("spot" : Str)) = False := eq_false (by decide)
theorem q8b : (("cells" : Str) = ("stock" : Str)) = False := eq_false (by decide)
theorem q8c : (("cells" : Str) = ("mixed" : Str)) = False := eq_false (by decide)
theorem q8d : (("spot" : Str) = ("stock" : Str)) = False := eq_false (by decide)
theorem q8e : (("spot" : Str) = ("mixed" : Str)) = False := eq_false (by decide)
theorem q8f : (("stock" : Str) = ("mixed" : Str)) = False := eq_false (by decide)
theorem q8g : (("stock" : Str) = ("spot" : Str)) = False := eq_false (by decide)
theorem q8h : (("mixed" : Str) = ("spot" : Str)) = False := eq_false (by decide)
theorem q8i : (("mixed" : Str) = ("stock" : Str)) = False := eq_false (by decide)
theorem l8a (a b c d : T) : dLook k8 [a, b, c, d] (.str ("cells" : Str)) = some a := by simp [dLook, k8, nk0]
theorem l8b (a b c d : T) : dLook k8 [a, b, c, d] (.str ("spot" : Str)) = some b := by simp [dLook, k8, nk0, q8a]
theorem l8c (a b c d : T) : dLook k8 [a, b, c, d] (.str ("stock" : Str)) = some c := by simp [dLook, k8, nk0, q8b, q8d]
theorem l8d (a b c d : T) : dLook k8 [a, b, c, d] (.str ("mixed" : Str)) = some d := by simp [dLook, k8, nk0, q8c, q8e, q8f]
theorem p8b (a b c d x : T) : dPutT k8 [a, b, c, d] (.str ("spot" : Str)) x = (k8, [a, x, c, d]) := by
  unfold dPutT
  rw [l8b]
  simp [dRepl, k8, nk0, q8a, q8g, q8h]
theorem p8c (a b c d x : T) : dPutT k8 [a, b, c, d] (.str ("stock" : Str)) x = (k8, [a, b, x, d]) := by
  unfold dPutT
  rw [l8c]
  simp [dRepl, k8, nk0, q8b, q8d, q8i]
theorem p8d (a b c d x : T) : dPutT k8 [a, b, c, d] (.str ("mixed" : Str)) x = (k8, [a, b, c, x]) := by
  unfold dPutT
  rw [l8d]
  simp [dRepl, k8, nk0, q8c, q8e, q8f]
theorem o8a : keyOk k8 (.str ("cells" : Str)) = true := rfl
theorem o8b : keyOk k8 (.str ("spot" : Str)) = true := rfl
theorem o8c : keyOk k8 (.str ("stock" : Str)) = true := rfl
theorem o8d : keyOk k8 (.str ("mixed" : Str)) = true := rfl
variable {B : List O}
theorem draw8 {m : Nat} {st : List O} (h : Dq B m st) (hm : m ≤ 1000000) {n : Nat} (h0 : 0 < n) (h1 : n < 1073741824) : ∃ d st', d < n ∧ Dq B (m + 1) st' ∧ Gv F__law_draw [.loc 0, .int n] st (.val (.int (d : Nat))) st' := by
  obtain ⟨cells, a, b, c, rfl, hj, hc, a0, a1, c0, c1⟩ := h
  have at0 : ∀ x : O, (B.set 0 x)[0]? = some x := fun x => List.getElem?_set_self hj
  have ss : ∀ x y : O, (B.set 0 x).set 0 y = B.set 0 y := fun x y => by simp
  by_cases hd : 0 < b
  · have d2 := divI (i := b) (j := (n : Int)) (by omega) (by rw [p400]; omega)
    have d3 := modI (i := b) (j := (n : Int)) (by omega)
    have nn := Int.emod_nonneg b (show (n : Int) ≠ 0 by omega)
    have nl := Int.emod_lt_of_pos b (show (0 : Int) < n by omega)
    have tn : ((b % (n : Int)).toNat : Int) = b % (n : Int) := by omega
    refine ⟨(b % (n : Int)).toNat, B.set 0 (drO cells a (b / n) c), by omega, ⟨cells, a, b / n, c, rfl, hj, hc, a0, by omega, c0, by omega⟩, ?_⟩
    rw [tn]
    refine gv_ret (s := ⟨[.val (.loc 0), .val (.int n), .un, .un, .val (.int (b % n)), .un, .un], [], B.set 0 (drO cells a (b / n) c)⟩) rfl ?_
    simp [v__law_draw, st0, at0, ss, gtI, hd, d2, d3, o8c, l8c, p8c]
  · have lp : 0 < cells.length := List.length_pos_iff.mpr hc
    have im := Int.emod_nonneg a (show (cells.length : Int) ≠ 0 by omega)
    have il := Int.emod_lt_of_pos a (show (0 : Int) < cells.length by omega)
    have tn : ((a % (cells.length : Int)).toNat : Int) = a % (cells.length : Int) := by omega
    have lt : (a % (cells.length : Int)).toNat < cells.length := by omega
    obtain ⟨x, hx⟩ : ∃ x, cells[(a % (cells.length : Int)).toNat]? = some x := ⟨_, List.getElem?_eq_getElem lt⟩
    have ix : ixAt (cells.map T.int) (a % (cells.length : Int)) = some (.int x) := by
      rw [← tn]
      exact x_ixN (by rw [List.getElem?_map, hx]; rfl)
    have d1 := modI (i := a) (j := (cells.length : Int)) (by omega)
    have pw := powI (i := 10) (j := 18) (by decide) (by decide) (by decide)
    have pw : opPow (.int 10) (.int 18) = some (.int 1000000000000000000) := pw
    have g1 := geI x 1000000000000000000
    have le1 : opLe (.int (a + 1)) (.int (cells.length : Int)) = some (.bl (decide (a + 1 ≤ (cells.length : Int)))) := rfl
    by_cases hbig : (1000000000000000000 : Int) ≤ x ∧ a + 1 ≤ (cells.length : Int)
    · have d2 := divI (i := x) (j := (n : Int)) (by omega) (by rw [p400]; omega)
      have d3 := modI (i := x) (j := (n : Int)) (by omega)
      have nn := Int.emod_nonneg x (show (n : Int) ≠ 0 by omega)
      have nl := Int.emod_lt_of_pos x (show (0 : Int) < n by omega)
      have tx : ((x % (n : Int)).toNat : Int) = x % (n : Int) := by omega
      refine ⟨(x % (n : Int)).toNat, B.set 0 (drO cells (a + 1) (x / n) c), by omega, ⟨cells, a + 1, x / n, c, rfl, hj, hc, by omega, by omega, c0, by omega⟩, ?_⟩
      rw [tx]
      refine gv_ret (s := ⟨[.val (.loc 0), .val (.int n), .val (.lst (cells.map .int)), .un, .un, .val (.int x), .val (.int (c + 1))], [], B.set 0 (drO cells (a + 1) (x / n) c)⟩) rfl ?_
      simp [v__law_draw, st0, at0, ss, gtI, hd, d1, d2, d3, ix, pw, g1, le1, hbig.1, hbig.2, o8a, o8b, o8c, o8d, l8a, l8b, l8c, l8d, p8b, p8c, p8d]
    · have m1 := modI (i := x) (j := 998244353) (by decide)
      have u0 := Int.emod_nonneg x (show (998244353 : Int) ≠ 0 by decide)
      have u1 := Int.emod_lt_of_pos x (show (0 : Int) < 998244353 by decide)
      have e1 := mulA (i := 7901) (j := c + 1) (by rw [p400]; decide) (by rw [p400]; omega)
      have e2 := mulA (i := 7901 * (c + 1)) (j := c + 1) (by rw [p400]; omega) (by rw [p400]; omega)
      have e3 := mulA (i := 13) (j := a + 1) (by rw [p400]; decide) (by rw [p400]; omega)
      have cc : 0 ≤ 7901 * (c + 1) * (c + 1) := Int.mul_nonneg (by omega) (by omega)
      generalize 7901 * (c + 1) * (c + 1) = v at e2 cc
      have m2 := modI (i := x % 998244353 + v + 13 * (a + 1)) (j := 2147483647) (by decide)
      have w0 := Int.emod_nonneg (x % 998244353 + v + 13 * (a + 1)) (show (2147483647 : Int) ≠ 0 by decide)
      have w1 := Int.emod_lt_of_pos (x % 998244353 + v + 13 * (a + 1)) (show (0 : Int) < 2147483647 by decide)
      generalize (x % 998244353 + v + 13 * (a + 1)) % 2147483647 = o at m2 w0 w1
      have e4 := mulA (i := o) (j := o) (by rw [p400]; omega) (by rw [p400]; omega)
      have m3 := modI (i := o * o) (j := 2147483629) (by decide)
      have y0 := Int.emod_nonneg (o * o) (show (2147483629 : Int) ≠ 0 by decide)
      have y1 := Int.emod_lt_of_pos (o * o) (show (0 : Int) < 2147483629 by decide)
      generalize (o * o) % 2147483629 = y at m3 y0 y1
      have e5 := mulA (i := y) (j := o + 5) (by rw [p400]; omega) (by rw [p400]; omega)
      have m4 := modI (i := y * (o + 5)) (j := 2147483647) (by decide)
      have z0 := Int.emod_nonneg (y * (o + 5)) (show (2147483647 : Int) ≠ 0 by decide)
      have z1 := Int.emod_lt_of_pos (y * (o + 5)) (show (0 : Int) < 2147483647 by decide)
      generalize (y * (o + 5)) % 2147483647 = z at m4 z0 z1
      have e6 := mulA (i := z) (j := 69697) (by rw [p400]; omega) (by rw [p400]; decide)
      have m5 := modI (i := z * 69697 + (c + 1)) (j := 2147483587) (by decide)
      have r0 := Int.emod_nonneg (z * 69697 + (c + 1)) (show (2147483587 : Int) ≠ 0 by decide)
      have r1 := Int.emod_lt_of_pos (z * 69697 + (c + 1)) (show (0 : Int) < 2147483587 by decide)
      generalize (z * 69697 + (c + 1)) % 2147483587 = r at m5 r0 r1
      have e7 := divI (i := r) (j := 11) (by decide) (by rw [p400]; decide)
      have m6 := modI (i := r / 11) (j := (n : Int)) (by omega)
      have nn := Int.emod_nonneg (r / 11) (show (n : Int) ≠ 0 by omega)
      have nl := Int.emod_lt_of_pos (r / 11) (show (0 : Int) < n by omega)
      have tx : ((r / 11 % (n : Int)).toNat : Int) = r / 11 % (n : Int) := by omega
      have hb : (decide ((1000000000000000000 : Int) ≤ x) && decide (a + 1 ≤ (cells.length : Int))) = false := by
        rw [Bool.and_eq_false_iff, decide_eq_false_iff_not, decide_eq_false_iff_not]
        exact Decidable.not_and_iff_or_not.mp hbig
      refine ⟨(r / 11 % (n : Int)).toNat, B.set 0 (drO cells (a + 1) b (c + 1)), by omega, ⟨cells, a + 1, b, c + 1, rfl, hj, hc, by omega, by omega, by omega, by omega⟩, ?_⟩
      rw [tx]
      refine gv_ret (s := ⟨[.val (.loc 0), .val (.int n), .val (.lst (cells.map .int)), .val (.int z), .un, .val (.int x), .val (.int (c + 1))], [], B.set 0 (drO cells (a + 1) b (c + 1))⟩) rfl ?_
      by_cases hx1 : (1000000000000000000 : Int) ≤ x
      · have hx2 : ¬ a + 1 ≤ (cells.length : Int) := fun q => hbig ⟨hx1, q⟩
        simp [v__law_draw, st0, at0, ss, gtI, hd, d1, ix, pw, g1, le1, hx1, hx2, o8a, o8b, o8c, o8d, l8a, l8b, l8c, l8d, p8b, p8c, p8d, m1, m2, m3, m4, m5, m6, e1, e2, e3, e4, e5, e6, e7]
      · simp [v__law_draw, st0, at0, ss, gtI, hd, d1, ix, pw, g1, le1, hx1, o8a, o8b, o8c, o8d, l8a, l8b, l8c, l8d, p8b, p8c, p8d, m1, m2, m3, m4, m5, m6, e1, e2, e3, e4, e5, e6, e7]
theorem c_draw {m : Nat} {st : List O} (h : Dq B m st) (hm : m ≤ 1000000) {n : Nat} (h0 : 0 < n) (h1 : n < 1073741824) : ∃ d st', d < n ∧ Dq B (m + 1) st' ∧ ∀ env lo, callF F__law_draw [.loc 0, .int n] ⟨env, lo, st⟩ = .ok (.val (.int (d : Nat))) ⟨env, lo, st'⟩ := by
  obtain ⟨d, st', h1, h2, gv⟩ := draw8 h hm h0 h1
  exact ⟨d, st', h1, h2, fun env lo => callF_gv (s := ⟨env, lo, st⟩) gv⟩
end L2.Z.D
set_option Elab.async false
set_option linter.all false
set_option maxRecDepth 100000
set_option maxHeartbeats 1000000
set_option exponentiation.threshold 500
namespace L2.Z.D
open PySem PySem.Spec PyProof.Rows
def chr1 (c : Nat) : Str := ⟨#[c]⟩
theorem let_ix {j : Nat} (hj : j < 26) : opIx (.str ("abcdefghijklmnopqrstuvwxyz" : Str)) (.int (j : Int)) = some (.str (chr1 (97 + j))) := by
  have all : ∀ k : Fin 26, opIx (.str ("abcdefghijklmnopqrstuvwxyz" : Str)) (.int ((k.val : Nat) : Int)) = some (.str (chr1 (97 + k.val))) := by
    intro k
    have : ("abcdefghijklmnopqrstuvwxyz" : Str).cps.toList[k.val]? = some (97 + k.val) := by revert k; decide +kernel
    show (if ("abcdefghijklmnopqrstuvwxyz" : Str).length ≤ 16777216 then (ixAt ("abcdefghijklmnopqrstuvwxyz" : Str).cps.toList ((k.val : Nat) : Int)).map fun c => T.str ⟨#[c]⟩ else none) = _
    rw [if_pos (by decide +kernel), x_ixN this]
    rfl
  exact all ⟨j, hj⟩
theorem join_chr : ∀ cs : List Nat, TL.joinL [] (cs.map fun c => [c]) = cs
  | [] => rfl
  | [c] => rfl
  | c :: d :: cs => by
    have := join_chr (d :: cs)
    show [c] ++ ([] ++ TL.joinL [] ((d :: cs).map fun c => [c])) = _
    rw [this]; rfl
theorem join_tl (cs : List Nat) : (Txt.join ("" : Str) (cs.map chr1)).cps.toList = cs := by
  rw [TL.join_eq]
  have := TL.tl_join ("" : Str) (cs.map chr1)
  have e : TL.tl ("" : Str) = [] := by decide
  rw [e, List.map_map] at this
  exact this.trans (join_chr cs)
end L2.Z.D
set_option Elab.async false
set_option linter.all false
set_option maxRecDepth 100000
set_option maxHeartbeats 1000000
set_option exponentiation.threshold 500
namespace L2.Z.D
open PySem PySem.Spec PyProof.Rows
def nI (k : Nat) : T := .int (k : Int)
theorem eqb_nI (a b : Nat) : eqb (nI a) (nI b) = decide (a = b) := by
  by_cases h : a = b
  · subst h; rw [eqb_refl rfl]; simp
  · rw [eqb_ne rfl rfl (by unfold nI; intro e; injection e with e; omega)]; simp [h]
theorem atD_nI (x : Nat) : ∀ l : List Nat, x ∈ l → ∃ j, atD (l.map nI) (nI x) = some j ∧ l.eraseIdx j = l.erase x
  | a :: l, m => by
    have e0 : atD ((a :: l).map nI) (nI x) = if eqb (nI a) (nI x) = true then some 0 else (atD (l.map nI) (nI x)).map (· + 1) := by
      unfold atD SeqAt.dataPlace
      rw [List.map_cons, toDs, List.findIdx?_cons]
      rfl
    rw [e0, eqb_nI]
    by_cases h : a = x
    · subst h
      exact ⟨0, by simp, by simp⟩
    · obtain ⟨j, e1, e2⟩ := atD_nI x l (by
        rcases List.mem_cons.mp m with m | m
        · exact absurd m.symm h
        · exact m)
      refine ⟨j + 1, by rw [e1]; simp [h], ?_⟩
      rw [List.eraseIdx_cons_succ, e2, List.erase_cons_tail (by simpa using h)]
theorem rem_nI {x : Nat} {l : List Nat} (m : x ∈ l) : muRem (l.map nI) [nI x] = some ((l.erase x).map nI, .non) := by
  obtain ⟨j, e1, e2⟩ := atD_nI x l m
  have c : cls (l.map nI) = true := cls_map fun _ _ => rfl
  have c1 := cl_ok (t := .lst (l.map nI)) (by simpa using c)
  show (if pures (l.map nI) = true ∧ (nI x).pure = true ∧ okT (.lst (l.map nI)) = true ∧ okT (nI x) = true ∧ min (toD (.lst (l.map nI))).depth (toD (nI x)).depth ≤ 100 then (atD (l.map nI) (nI x)).map fun j => ((l.map nI).eraseIdx j, T.non) else none) = _
  rw [if_pos ⟨(cls_ok c).2, rfl, c1.1, rfl, Nat.le_trans (Nat.min_le_right _ _) (Nat.zero_le _)⟩, e1]
  show some ((l.map nI).eraseIdx j, T.non) = _
  rw [eraseIdx_map', e2]
/-- a comprehension over a list of the frame's own -/
theorem loopCP_fil {α : Type} {pl : Pl} {n : Nat} {p : Pat} {c : Et} {f : Ev} {vs : List Nat} {l : List α} {en e : α → T} {g : α → Bool} {W : List Slot} {lo st : List O} (hp : ∀ s : S, s.lo = lo → s.st = st → s.lstAt pl = some (l.map en)) (hn : l.length = n)
    (h : ∀ a ∈ l, ∃ s2, p (en a) ⟨W, lo, st⟩ = .ok () s2 ∧ c s2 = .ok (g a) s2 ∧ (g a = true → f s2 = .ok (e a) s2) ∧ wipeE s2.env vs = W ∧ s2.lo = lo ∧ s2.st = st) : ∀ r, r ≤ n → ∀ s : S, wipeE s.env vs = W → s.lo = lo → s.st = st → ∃ s', loopCP pl n p c f vs r s = .ok (((l.drop (n - r)).filter g).map e) s' ∧ wipeE s'.env vs = W ∧ s'.lo = lo ∧ s'.st = st
  | 0, _, s, w1, w2, w3 => by
    refine ⟨s, ?_, w1, w2, w3⟩
    unfold loopCP
    rw [hp s w2 w3]
    dsimp only
    rw [List.length_map, if_pos hn, Nat.sub_zero, ← hn, List.drop_length]
    rfl
  | r + 1, hr, s, w1, w2, w3 => by
    have hi : n - (r + 1) < l.length := by omega
    obtain ⟨a, ha⟩ : ∃ a, l[n - (r + 1)]? = some a := ⟨_, List.getElem?_eq_getElem hi⟩
    obtain ⟨s2, e1, e2, e3, v1, v2, v3⟩ := h a (List.mem_of_getElem? ha)
    obtain ⟨s', e4, z⟩ := loopCP_fil hp hn h r (by omega) s2 v1 v2 v3
    have dr : l.drop (n - (r + 1)) = a :: l.drop (n - r) := by
      rw [List.drop_eq_getElem_cons hi, show n - (r + 1) + 1 = n - r by omega]
      congr 1
      exact Option.some.inj ((List.getElem?_eq_getElem hi).symm.trans ha)
    refine ⟨s', ?_, z⟩
    unfold loopCP
    rw [hp s w2 w3]
    dsimp only
    rw [List.length_map, if_pos hn, List.getElem?_map, ha]
    dsimp only [Option.map_some]
    rw [wipe_mk w1 w2 w3, e1, Rbind_ok, e2, Rbind_ok, dr]
    cases q : g a with
    | true => rw [if_pos rfl, e3 q, Rbind_ok, e4, Rbind_ok, List.filter_cons_of_pos q]; rfl
    | false => rw [if_neg Bool.false_ne_true, e4, List.filter_cons_of_neg (by rw [q]; simp)]
theorem aLcP_fil {α : Type} {fp : Ep} {pl : Pl} {p : Pat} {c : Et} {f : Ev} {vs : List Nat} {l : List α} {en e : α → T} {g : α → Bool} {s : S} (h0 : fp s = .ok pl s) (hp : ∀ s' : S, s'.lo = s.lo → s'.st = s.st → s'.lstAt pl = some (l.map en))
    (h : ∀ a ∈ l, ∃ s2, p (en a) ⟨wipeE s.env vs, s.lo, s.st⟩ = .ok () s2 ∧ c s2 = .ok (g a) s2 ∧ (g a = true → f s2 = .ok (e a) s2) ∧ wipeE s2.env vs = wipeE s.env vs ∧ s2.lo = s.lo ∧ s2.st = s.st) : aLcP fp p c f vs s = .ok ((l.filter g).map e) s := by
  obtain ⟨s', e1, w1, w2, w3⟩ := loopCP_fil (n := l.length) hp rfl h l.length (Nat.le_refl _) s rfl rfl rfl
  unfold aLcP
  rw [h0, Rbind_ok, hp s rfl rfl]
  dsimp only
  rw [List.length_map, e1, Rbind_ok, Nat.sub_self, List.drop_zero]
  unfold S.rest
  rw [rest_wipe w1, w2, w3]
end L2.Z.D
set_option Elab.async false
set_option linter.all false
set_option maxRecDepth 100000
set_option maxHeartbeats 400000
namespace L2.Z
open PySem PySem.Spec PyProof.Rows
theorem r_bin {op : T → T → Option T} {f h : Ev} {s s1 s2 : S} {x y z : T} (h1 : f s = .ok x s1) (h2 : h s1 = .ok y s2) (h3 : op x y = some z) : fBin op f h s = .ok z s2 := by
  rw [x_fBin, h1, Rbind_ok, h2, Rbind_ok, h3]; rfl
theorem r_cl {op : List T → Option T} {r : Ea} {s s1 : S} {xs : List T} {z : T} (h1 : r s = .ok xs s1) (h2 : op xs = some z) : fCl op r s = .ok z s1 := by
  rw [x_fCl, h1, Rbind_ok, h2]; rfl
theorem r_cons {f : Ev} {r : Ea} {s s1 s2 : S} {a : T} {ts : List T} (h1 : f s = .ok a s1) (h2 : r s1 = .ok ts s2) : aCons f r s = .ok (a :: ts) s2 := by
  rw [x_aCons, h1, Rbind_ok, h2]; rfl
theorem r_one {f : Ev} {s s1 : S} {a : T} (h1 : f s = .ok a s1) : aCons f aNil s = .ok [a] s1 := r_cons h1 rfl
theorem r_two {f h : Ev} {s s1 s2 : S} {a b : T} (h1 : f s = .ok a s1) (h2 : h s1 = .ok b s2) : aCons f (aCons h aNil) s = .ok [a, b] s2 := r_cons h1 (r_one h2)
theorem r_call {F : Fd} {fa : Ea} {s s1 s2 : S} {ts : List T} {v : T} (h1 : fa s = .ok ts s1) (h2 : callF F ts s1 = .ok (.val v) s2) : fVal (fCall F fa) s = .ok v s2 := by
  rw [x_fVal, x_fCall, h1, Rbind_ok, h2]; rfl
theorem r_tup {r : Ea} {s s1 : S} {ts : List T} (h : r s = .ok ts s1) (l : ts.length ≤ 1000) : fTup r s = .ok (.tup ts) s1 := by
  rw [x_fTup, h, Rbind_ok, if_pos l]
theorem r_lst {r : Ea} {s s1 : S} {ts : List T} (h : r s = .ok ts s1) : fLst r s = .ok (.lst ts) s1 := by
  rw [x_fLst, h]; rfl
theorem r_tE {f : Ev} {s s1 : S} {b : Bool} (h : f s = .ok (.bl b) s1) : tE f s = .ok b s1 := by
  rw [x_tE, h]; rfl
theorem r_not {c : Et} {s s1 : S} {b : Bool} (h : c s = .ok b s1) : tNotZ c s = .ok (!b) s1 := by
  rw [x_tNotZ, h]; rfl
theorem r_or1 {c d : Et} {s s1 : S} (h1 : c s = .ok true s1) : tOrZ c d s = .ok true s1 := by
  rw [x_tOrZ, h1]; rfl
theorem r_or2 {c d : Et} {s s1 s2 : S} {b : Bool} (h1 : c s = .ok false s1) (h2 : d s1 = .ok b s2) : tOrZ c d s = .ok b s2 := by
  rw [x_tOrZ, h1, Rbind_ok, if_neg Bool.false_ne_true]; exact h2
theorem r_ret {f : Ev} {s s1 : S} {t : T} (h : f s = .ok t s1) : sRet f s = .ok (.ret (.val t)) s1 := by
  rw [x_sRet, h]; rfl
theorem r_retC {F : Fd} {fa : Ea} {s s1 s2 : S} {ts : List T} {v : T} (h1 : fa s = .ok ts s1) (h2 : callF F ts s1 = .ok (.val v) s2) : sRetN (fCall F fa) s = .ok (.ret (.val v)) s2 := by
  rw [x_sRetN, x_fCall, h1, Rbind_ok, h2]; rfl
theorem r_ifT {c : Et} {f h : Ev} {s s1 s2 : S} {t : T} (h1 : c s = .ok true s1) (h2 : f s1 = .ok t s2) : fIf c f h s = .ok t s2 := by
  rw [x_fIf, h1, Rbind_ok, if_pos rfl]; exact h2
theorem r_ifF {c : Et} {f h : Ev} {s s1 s2 : S} {t : T} (h1 : c s = .ok false s1) (h2 : h s1 = .ok t s2) : fIf c f h s = .ok t s2 := by
  rw [x_fIf, h1, Rbind_ok, if_neg Bool.false_ne_true]; exact h2
theorem r_nVal {f : Ev} {s s1 : S} {t : T} (h : f s = .ok t s1) : nVal f s = .ok (.val t) s1 := by
  rw [x_nVal, h]; rfl
theorem r_par2 {is : List Nat} {f h : En} {s s1 s2 : S} {n m : Nw} (h1 : f s = .ok n s1) (h2 : h s1 = .ok m s2) : sPar is (anCons f (anCons h anNil)) s = .ok .nx (s2.news is [n, m]) := by
  rw [x_sPar, x_anCons, h1, Rbind_ok, x_anCons, h2, Rbind_ok, x_anNil]; rfl
theorem r_giveL {i n : Nat} {f : Sv} {s : S} {ts : List T} {r : R Fl} (h1 : s.env[i]? = some (.own n)) (h2 : s.lo[n]? = some (.lst ts)) (k : f ⟨s.env.set i (.val (.lst ts)), s.lo.set n .dead, s.st⟩ = r) : sGive i f s = r := by
  rw [x_sGive, x_give, h1]
  dsimp only
  rw [h2]
  exact k
end L2.Z
set_option Elab.async false
set_option linter.all false
set_option maxRecDepth 100000
set_option maxHeartbeats 2000000
set_option exponentiation.threshold 500
namespace L2.Z.D
open PySem PySem.Spec PyProof.Rows
variable {B : List O}
theorem g_start (ns : List Int) (h : ns.length ≤ 63) : ∃ st, Gv F__law_start [.lst (ns.map .int)] [] (.val (.loc 0)) st ∧ Dq [.lst []] 0 st := by
  refine ⟨[drO (ns ++ [(ns.length : Int)]) 0 0 0], ?_, ⟨ns ++ [(ns.length : Int)], 0, 0, 0, rfl, by decide, by simp, by decide, by decide, by decide, by decide⟩⟩
  have ad : opAddL (.lst (ns.map T.int)) (.lst [.int (ns.length : Int)]) = some ((ns ++ [(ns.length : Int)]).map T.int) := by
    rw [addL (by rw [List.length_map]; simp; omega)]
    simp
  have ks : S.env (st0 1 [.lst (ns.map T.int)] []) = [.val (.lst (ns.map T.int))] := rfl
  refine gv_ret (s := ⟨[.val (.lst (ns.map .int))], [], [drO (ns ++ [(ns.length : Int)]) 0 0 0]⟩) rfl ?_
  have a1 : fLst (fBinF opAddL (fVar 0) (fLst (aLst (aCons (fCl clLen (aCons (fVar 0) aNil)) aNil)))) ⟨[.val (.lst (ns.map .int))], [], []⟩ = .ok (.lst ((ns ++ [(ns.length : Int)]).map T.int)) ⟨[.val (.lst (ns.map .int))], [], []⟩ := by
    simp [ad]
  simp only [v__law_start, st0]
  show (sRet _ ⟨[.val (.lst (ns.map .int))], [], []⟩) = _
  refine r_ret ?_
  generalize fLst (fBinF opAddL (fVar 0) (fLst (aLst (aCons (fCl clLen (aCons (fVar 0) aNil)) aNil)))) = ff at a1
  have ko : keysOk k8 = true := by decide +kernel
  unfold k8 at ko
  simp [fLoc, nDicP, pCons, pNil, a1]
  rw [if_pos ko]
  simp [k8, drO]
section
variable {α : Type}
theorem c_pickL (en : α → T) {L : List α} (h0 : 0 < L.length) (h1 : L.length < 1073741824) {m : Nat} {st : List O} (hd : Dq B m st) (hm : m ≤ 1000000) :
    ∃ x ∈ L, ∃ st', Dq B (m + 1) st' ∧ ∀ env lo, callF F__law_pick [.loc 0, .lst (L.map en)] ⟨env, lo, st⟩ = .ok (.val (en x)) ⟨env, lo, st'⟩ := by
  obtain ⟨d, st', dl, d1, cd⟩ := c_draw hd hm h0 h1
  obtain ⟨x, hx⟩ : ∃ x, L[d]? = some x := ⟨_, List.getElem?_eq_getElem dl⟩
  refine ⟨x, List.mem_of_getElem? hx, st', d1, fun env lo => ?_⟩
  refine callF_gv (s := ⟨env, lo, st⟩) (gv_ret (np := 2) (nn := 2) (f := v__law_pick) rfl (s := ⟨[.val (.loc 0), .val (.lst (L.map en))], [], st'⟩) ?_)
  refine r_ret (r_bin (f := fVar 1) (x := .lst (L.map en)) (y := .int (d : Nat)) rfl (r_call (ts := [.loc 0, .int L.length]) ?_ (cd _ _)) (x_ixN (by rw [List.getElem?_map, hx]; rfl)))
  refine r_two rfl (r_cl rfl ?_)
  show some (T.int (L.map en).length) = _
  rw [List.length_map]
theorem c_pickT (en : α → T) {L : List α} (h0 : 0 < L.length) (h1 : L.length < 1073741824) {m : Nat} {st : List O} (hd : Dq B m st) (hm : m ≤ 1000000) :
    ∃ x ∈ L, ∃ st', Dq B (m + 1) st' ∧ ∀ env lo, callF F__law_pick [.loc 0, .tup (L.map en)] ⟨env, lo, st⟩ = .ok (.val (en x)) ⟨env, lo, st'⟩ := by
  obtain ⟨d, st', dl, d1, cd⟩ := c_draw hd hm h0 h1
  obtain ⟨x, hx⟩ : ∃ x, L[d]? = some x := ⟨_, List.getElem?_eq_getElem dl⟩
  refine ⟨x, List.mem_of_getElem? hx, st', d1, fun env lo => ?_⟩
  refine callF_gv (s := ⟨env, lo, st⟩) (gv_ret (np := 2) (nn := 2) (f := v__law_pick) rfl (s := ⟨[.val (.loc 0), .val (.tup (L.map en))], [], st'⟩) ?_)
  refine r_ret (r_bin (f := fVar 1) (x := .tup (L.map en)) (y := .int (d : Nat)) rfl (r_call (ts := [.loc 0, .int L.length]) ?_ (cd _ _)) (x_ixN (by rw [List.getElem?_map, hx]; rfl)))
  refine r_two rfl (r_cl rfl ?_)
  show some (T.int (L.map en).length) = _
  rw [List.length_map]
end
theorem turns_q {β : Type} {p : Pat} {f : Ev} {vs : List Nat} {W : List Slot} {lo : List O} {en : β → T} (c : Nat) (Ok : β → Prop) : ∀ (ts : List T) (m : Nat) (st : List O), Dq B m st →
    (∀ t ∈ ts, ∀ k st, Dq B k st → k ≤ m + c * ts.length → ∃ b st', Ok b ∧ Dq B (k + c) st' ∧ ∃ s2 s3, p t ⟨W, lo, st⟩ = .ok () s2 ∧ f s2 = .ok (en b) s3 ∧ wipeE s3.env vs = W ∧ s3.lo = lo ∧ s3.st = st') →
    ∃ (bs : List β) (st' : List O), bs.length = ts.length ∧ (∀ b ∈ bs, Ok b) ∧ Dq B (m + c * ts.length) st' ∧ Turns p tTrue f vs W lo ts (bs.map en) st st'
  | [], m, st, hd, _ => ⟨[], st, rfl, by simp, by simpa using hd, .nil⟩
  | t :: ts, m, st, hd, h => by
    obtain ⟨b, st1, ob, d1, s2, s3, h1, h2, h3, h4, h5⟩ := h t (List.mem_cons_self ..) m st hd (Nat.le_add_right _ _)
    obtain ⟨bs, st', lb, okb, d2, tt⟩ := turns_q c Ok ts (m + c) st1 d1 fun u mu k st dk hk => h u (List.mem_cons_of_mem _ mu) k st dk (by rw [List.length_cons, Nat.mul_succ]; omega)
    refine ⟨b :: bs, st', by simp [lb], ?_, d2.mono (by rw [List.length_cons, Nat.mul_succ]; omega), .cons ⟨s2, true, s2, h1, rfl, rfl, s3, h2, h3, h4, h5⟩ tt⟩
    intro x mx
    rcases List.mem_cons.mp mx with rfl | mx
    · exact ob
    · exact okb x mx
/-- a comprehension whose every value draws c times at the most -/
theorem draws_q {β : Type} {it : Ea} {p : Pat} {f : Ev} {vs : List Nat} {s s1 : S} {en : β → T} (c : Nat) (Ok : β → Prop) {ts : List T} {m : Nat} (hi : it s = .ok ts s1) (hd : Dq B m s1.st)
    (h : ∀ t ∈ ts, ∀ k st, Dq B k st → k ≤ m + c * ts.length → ∃ b st', Ok b ∧ Dq B (k + c) st' ∧ ∃ s2 s3, p t ⟨wipeE s1.env vs, s1.lo, st⟩ = .ok () s2 ∧ f s2 = .ok (en b) s3 ∧ wipeE s3.env vs = wipeE s1.env vs ∧ s3.lo = s1.lo ∧ s3.st = st') :
    ∃ (bs : List β) (st' : List O), bs.length = ts.length ∧ (∀ b ∈ bs, Ok b) ∧ Dq B (m + c * ts.length) st' ∧ aLc it p tTrue f vs s = .ok (bs.map en) { s1 with st := st' } := by
  obtain ⟨bs, st', a, b, d, tt⟩ := turns_q (en := en) c Ok ts m s1.st hd h
  exact ⟨bs, st', a, b, d, aLc_turns hi tt⟩
abbrev kAz : T := .str ("abcdefghijklmnopqrstuvwxyz" : Str)
abbrev eDraw (e : Ev) : Ev := fVal (fCall F__law_draw (aCons (fVar 0) (aCons e aNil)))
abbrev eSize : Ev := fBin opAdd (fC (.int 1)) (eDraw (fBin opIx (fLst (aLst (aCons (fC (.int 2)) (aCons (fC (.int 8)) aNil)))) (eDraw (fC (.int 2)))))
abbrev eWide : Ev := fBin opIx (fLst (aLst (aCons (fC (.int 3)) (aCons (fC (.int 26)) aNil)))) (eDraw (fC (.int 2)))
abbrev eWord (c a w p : Nat) : Ev := fJoin (fC (.str ("" : Str))) (aLc (iRng1 (aCons (fVar a) aNil)) (pName p) tTrue (fBin opIx (fVar c) (eDraw (fVar w))) [p])
theorem w_draw {s : S} {e : Ev} {n m : Nat} (h0 : s.env[0]? = some (.val (.loc 0))) {s1 : S} (he : e s = .ok (.int (n : Nat)) s1) (hd : Dq B m s1.st) (hm : m ≤ 1000000) (l0 : 0 < n) (l1 : n < 1073741824) :
    ∃ d st', d < n ∧ Dq B (m + 1) st' ∧ eDraw e s = .ok (.int (d : Nat)) { s1 with st := st' } := by
  obtain ⟨d, st', dl, d1, cd⟩ := c_draw hd hm l0 l1
  refine ⟨d, st', dl, d1, r_call (r_two (a := .loc 0) (s1 := s) ?_ he) (cd s1.env s1.lo)⟩
  rw [x_fVar, h0]
theorem w_size {s : S} {m : Nat} (h0 : s.env[0]? = some (.val (.loc 0))) (hd : Dq B m s.st) (hm : m + 2 ≤ 1000000) :
    ∃ (k : Nat) (st' : List O), 1 ≤ k ∧ k ≤ 8 ∧ Dq B (m + 2) st' ∧ eSize s = .ok (.int (k : Nat)) { s with st := st' } := by
  obtain ⟨d, st1, dl, d1, e1⟩ := w_draw (e := fC (.int 2)) (n := 2) h0 rfl hd (by omega) (by omega) (by omega)
  obtain ⟨n, hn0, hn, hx⟩ : ∃ n : Nat, 0 < n ∧ n ≤ 8 ∧ ixAt [T.int 2, T.int 8] (d : Int) = some (.int (n : Nat)) := by
    rcases (by omega : d = 0 ∨ d = 1) with rfl | rfl
    · exact ⟨2, by omega, by omega, rfl⟩
    · exact ⟨8, by omega, by omega, rfl⟩
  obtain ⟨q, st2, ql, d2, e2⟩ := w_draw (s := s) (s1 := { s with st := st1 }) (e := fBin opIx (fLst (aLst (aCons (fC (.int 2)) (aCons (fC (.int 8)) aNil)))) (eDraw (fC (.int 2)))) (n := n) h0 (r_bin (x := .lst [.int 2, .int 8]) rfl e1 hx) d1 (by omega) (by omega) (by omega)
  refine ⟨q + 1, st2, by omega, by omega, d2, r_bin (f := fC (.int 1)) rfl e2 ?_⟩
  show some (T.int (1 + (q : Int))) = _
  congr 2
  omega
theorem w_wide {s : S} {m : Nat} (h0 : s.env[0]? = some (.val (.loc 0))) (hd : Dq B m s.st) (hm : m + 1 ≤ 1000000) :
    ∃ (k : Nat) (st' : List O), 1 ≤ k ∧ k ≤ 26 ∧ Dq B (m + 1) st' ∧ eWide s = .ok (.int (k : Nat)) { s with st := st' } := by
  obtain ⟨d, st1, dl, d1, e1⟩ := w_draw (e := fC (.int 2)) (n := 2) h0 rfl hd (by omega) (by omega) (by omega)
  obtain ⟨n, hn0, hn, hx⟩ : ∃ n : Nat, 0 < n ∧ n ≤ 26 ∧ ixAt [T.int 3, T.int 26] (d : Int) = some (.int (n : Nat)) := by
    rcases (by omega : d = 0 ∨ d = 1) with rfl | rfl
    · exact ⟨3, by omega, by omega, rfl⟩
    · exact ⟨26, by omega, by omega, rfl⟩
  exact ⟨n, st1, hn0, hn, d1, r_bin (x := .lst [.int 3, .int 26]) rfl e1 hx⟩
theorem nameOk_cs {cs : List Nat} (h1 : 1 ≤ cs.length) (h8 : cs.length ≤ 8) (hc : ∀ c ∈ cs, lowC c = true) : NameOk (Txt.join ("" : Str) (cs.map chr1)) := by
  have e := join_tl cs
  have l : (Txt.join ("" : Str) (cs.map chr1)).length = cs.length := by
    have := congrArg List.length e
    rwa [Array.length_toList] at this
  exact ⟨by omega, by omega, fun c m => hc c (by rwa [e] at m)⟩
theorem w_word {s : S} {c a w p k n m : Nat} (h0 : s.env[0]? = some (.val (.loc 0))) (hc : s.env[c]? = some (.val kAz)) (ha : s.env[a]? = some (.val (.int (k : Nat)))) (hw : s.env[w]? = some (.val (.int (n : Nat)))) (p0 : p ≠ 0) (pc : p ≠ c) (pw : p ≠ w)
    (k1 : 1 ≤ k) (k8 : k ≤ 8) (n1 : 1 ≤ n) (n26 : n ≤ 26) (hd : Dq B m s.st) (hm : m + 8 ≤ 1000000) :
    ∃ (z : Str) (st' : List O), NameOk z ∧ Dq B (m + 8) st' ∧ eWord c a w p s = .ok (.str z) { s with st := st' } := by
  have rk : rngOk (k : Int) := ⟨by omega, by omega⟩
  have ln : (rngT 0 k).length = k := by simp [rngT]
  obtain ⟨cs, st', lb, okb, d2, e⟩ := draws_q (B := B) (p := pName p) (f := fBin opIx (fVar c) (eDraw (fVar w))) (vs := [p]) (it := iRng1 (aCons (fVar a) aNil)) (s := s) (s1 := s) (en := fun c => T.str (chr1 c)) 1 (fun c => lowC c = true) (ts := rngT 0 k) (m := m) (by simp [ha, rk]) hd (by
    intro t mt j st1 dk hk
    rw [ln] at hk
    let S2 : S := ⟨(s.env.set p .un).set p (.val t), s.lo, st1⟩
    have g : ∀ i, i ≠ p → S2.env[i]? = s.env[i]? := fun i ne => by
      show ((s.env.set p .un).set p (.val t))[i]? = _
      rw [List.getElem?_set_ne (fun z => ne z.symm), List.getElem?_set_ne (fun z => ne z.symm)]
    obtain ⟨i, st3, il, d3, e3⟩ := w_draw (s := S2) (s1 := S2) (e := fVar w) (n := n) (by rw [g 0 (fun z => p0 z.symm)]; exact h0) (by rw [x_fVar, g w (fun z => pw z.symm), hw]) dk (by omega) (by omega) (by omega)
    refine ⟨97 + i, st3, ?_, d3, S2, _, rfl, r_bin (x := kAz) (s1 := S2) (by rw [x_fVar, g c (fun z => pc z.symm), hc]) e3 (let_ix (by omega)), ?_, rfl, rfl⟩
    · simp only [lowC, Bool.and_eq_true, decide_eq_true_eq]
      omega
    · show ((s.env.set p .un).set p (.val t)).set p .un = s.env.set p .un
      simp)
  rw [ln] at lb d2
  refine ⟨Txt.join ("" : Str) (cs.map chr1), st', nameOk_cs (by omega) (by omega) okb, d2.mono (by omega), ?_⟩
  have e' : aLc (iRng1 (aCons (fVar a) aNil)) (pName p) tTrue (fBin opIx (fVar c) (eDraw (fVar w))) [p] s = .ok ((cs.map chr1).map T.str) { s with st := st' } := by
    rw [e, List.map_map]
    rfl
  have le : ((cs.map chr1).map (·.length)).sum + (cs.map chr1).length * ("" : Str).length ≤ 16777216 := by
    have a1 : ∀ l : List Nat, ((l.map chr1).map (·.length)).sum = l.length := fun l => by
      induction l with
      | nil => rfl
      | cons x l ih => rw [List.map_cons, List.map_cons, List.sum_cons, ih, List.length_cons]; show 1 + _ = _; omega
    rw [a1, List.length_map, show ("" : Str).length = 0 from rfl]
    omega
  unfold eWord fJoin
  rw [show fC (.str ("" : Str)) s = .ok (.str ("" : Str)) s from rfl, Rbind_ok, e', Rbind_ok]
  dsimp only
  rw [isStrs_map]
  dsimp only
  rw [if_pos le]
end L2.Z.D
set_option Elab.async false
set_option linter.all false
set_option maxRecDepth 100000
set_option maxHeartbeats 2000000
set_option exponentiation.threshold 500
namespace L2.Z.D
open PySem PySem.Spec PyProof.Rows
variable {B : List O}
theorem in_strs8 (z : Str) (L : List Str) : opIn (.str z) (.lst (L.map .str)) = some (.bl (decide (z ∈ L))) := by
  have c : cls (L.map T.str) = true := cls_map fun _ _ => rfl
  by_cases h : z ∈ L
  · rw [inL_yes rfl c (Nat.zero_le _) (List.mem_map.mpr ⟨z, h, rfl⟩), decide_eq_true h]
  · rw [inL_no rfl c (Nat.zero_le _) (fun m => h (by obtain ⟨y, my, e⟩ := List.mem_map.mp m; cases e; exact my)), decide_eq_false h]
theorem nin_strs8 (z : Str) (L : List Str) : opNotIn (.str z) (.lst (L.map .str)) = some (.bl (!decide (z ∈ L))) := by
  have e := in_strs8 z L
  show (match opIn (.str z) (.lst (L.map .str)) with | some (.bl b) => some (T.bl (!b)) | _ => none) = _
  rw [e]
theorem pures_strs (L : List Str) : pures (L.map T.str) = true := (cls_ok (cls_map fun _ _ => rfl)).2
abbrev az : List Str := (List.range 26).map fun j => chr1 (97 + j)
theorem az_ch {f : Ev} {s s1 : S} (h : f s = .ok kAz s1) : iStrZ f s = .ok (az.map .str) s1 := by
  rw [x_iStrZ, h, Rbind_ok]
  dsimp only
  rw [if_pos (by decide +kernel)]
  congr 1
theorem az_nd : az.Nodup := by decide +kernel
theorem az_ok : ∀ z ∈ az, NameOk z := fun z m => by
  obtain ⟨j, mj, rfl⟩ := List.mem_map.mp m
  rw [List.mem_range] at mj
  refine ⟨Nat.le_refl 1, by show 1 ≤ 8; omega, fun c mc => ?_⟩
  have : c ∈ [97 + j] := mc
  rw [List.mem_singleton] at this
  subst this
  simp only [lowC, Bool.and_eq_true, decide_eq_true_eq]
  omega
theorem az_left {L : List Str} (h : L.length < 26) : 0 < (az.filter fun z => !decide (z ∈ L)).length := by
  rcases Nat.eq_zero_or_pos (az.filter fun z => !decide (z ∈ L)).length with e | e
  · exfalso
    have e := List.length_eq_zero_iff.mp e
    rw [List.filter_eq_nil_iff] at e
    have sub : ∀ z ∈ az, z ∈ L := fun z m => by simpa using e z m
    have := (nodup_le az_nd sub)
    have l : az.length = 26 := by decide
    omega
  · exact e
abbrev ePickAz (c : Et) (k p : Nat) : Ev := fVal (fCall F__law_pick (aCons (fVar 0) (aCons (fLst (aLc (iStrZ (fVar k)) (pName p) c (fVar p) [p])) aNil)))
/-- a letter that is none of L -/
theorem w_az {s : S} {c : Et} {k p m : Nat} {L : List Str} (h0 : s.env[0]? = some (.val (.loc 0))) (hk : s.env[k]? = some (.val kAz)) (hp : p < s.env.length)
    (hc : ∀ z, c ⟨(s.env.set p .un).set p (.val (.str z)), s.lo, s.st⟩ = .ok (!decide (z ∈ L)) ⟨(s.env.set p .un).set p (.val (.str z)), s.lo, s.st⟩) (hl : L.length < 26) (hd : Dq B m s.st) (hm : m ≤ 1000000) :
    ∃ z st', z ∉ L ∧ NameOk z ∧ Dq B (m + 1) st' ∧ ePickAz c k p s = .ok (.str z) { s with st := st' } ∧ sRetN (fCall F__law_pick (aCons (fVar 0) (aCons (fLst (aLc (iStrZ (fVar k)) (pName p) c (fVar p) [p])) aNil))) s = .ok (.ret (.val (.str z))) { s with st := st' } := by
  have ls : aLc (iStrZ (fVar k)) (pName p) c (fVar p) [p] s = .ok ((az.filter fun z => !decide (z ∈ L)).map .str) s := by
    refine filS (en := T.str) (l := az) (fun z => !decide (z ∈ L)) T.str (az_ch (by rw [x_fVar, hk])) fun z mz => ?_
    refine ⟨⟨(s.env.set p .un).set p (.val (.str z)), s.lo, s.st⟩, rfl, hc z, fun _ => ?_, ?_, rfl, rfl⟩
    · rw [x_fVar]
      show (match ((s.env.set p .un).set p (.val (.str z)))[p]? with | some (.val t) => R.ok t _ | _ => R.no) = _
      rw [List.getElem?_set_self (by rw [List.length_set]; exact hp)]
    · show ((s.env.set p .un).set p (.val (.str z))).set p .un = s.env.set p .un
      simp
  have le : (az.filter fun z => !decide (z ∈ L)).length ≤ 26 := Nat.le_trans (List.length_filter_le _ _) (by decide)
  obtain ⟨z, mz, st', d1, e1⟩ := c_pickL T.str (az_left hl) (by omega) hd hm
  rw [List.mem_filter] at mz
  refine ⟨z, st', by simpa using mz.2, az_ok z mz.1, d1, r_call (r_two (a := .loc 0) (s1 := s) (by rw [x_fVar, h0]) (r_lst ls)) (e1 s.env s.lo), r_retC (r_two (a := .loc 0) (s1 := s) (by rw [x_fVar, h0]) (r_lst ls)) (e1 s.env s.lo)⟩
abbrev bNm : Sv := sSeq (sPar [5, 6] (anCons (nVal eSize) (anCons (nVal eWide) anNil))) (sSeq (sSet 4 (eWord 2 5 6 7)) (sSeq (sIf (tE (fCmpR opIn (fVar 4) (pOwn 3))) (sSet 4 (ePickAz (tE (fCmpR opNotIn (fVar 8) (pOwn 3))) 2 8)) sNx) (sExpr (fMut muApp (pOwn 3) (aCons (fVar 4) aNil)))))
abbrev nmS (many : Nat) (x4 x5 x6 x7 x8 : Slot) (L : List Str) (st : List O) : S := ⟨[.val (.loc 0), .val (.int (many : Nat)), .val kAz, .own 0, x4, x5, x6, x7, x8], [.lst (L.map .str)], st⟩
theorem nm_step {many m : Nat} {x4 x5 x6 x7 x8 : Slot} {L : List Str} {st : List O} (hl : L.length < 26) (nd : L.Nodup) (ok : ∀ z ∈ L, NameOk z) (hd : Dq B m st) (hm : m + 20 ≤ 1000000) :
    ∃ (z : Str) (st' : List O) (y4 y5 y6 y7 y8 : Slot), z ∉ L ∧ NameOk z ∧ Dq B (m + 12) st' ∧ bNm (nmS many x4 x5 x6 x7 x8 L st) = .ok .nx (nmS many y4 y5 y6 y7 y8 (L ++ [z]) st') := by
  obtain ⟨k, st1, k1, k8, d1, e1⟩ := w_size (s := nmS many x4 x5 x6 x7 x8 L st) rfl hd (by omega)
  obtain ⟨w, st2, w1, w8, d2, e2⟩ := w_wide (s := nmS many x4 x5 x6 x7 x8 L st1) rfl d1 (by omega)
  have a1 : sPar [5, 6] (anCons (nVal eSize) (anCons (nVal eWide) anNil)) (nmS many x4 x5 x6 x7 x8 L st) = .ok .nx (nmS many x4 (.val (.int (k : Nat))) (.val (.int (w : Nat))) x7 x8 L st2) := r_par2 (r_nVal e1) (r_nVal e2)
  obtain ⟨z, st3, zo, d3, e3⟩ := w_word (s := nmS many x4 (.val (.int (k : Nat))) (.val (.int (w : Nat))) x7 x8 L st2) (c := 2) (a := 5) (w := 6) (p := 7) (k := k) (n := w) rfl rfl rfl rfl (by decide) (by decide) (by decide) k1 k8 w1 w8 d2 (by omega)
  have a2 : sSet 4 (eWord 2 5 6 7) (nmS many x4 (.val (.int (k : Nat))) (.val (.int (w : Nat))) x7 x8 L st2) = .ok .nx (nmS many (.val (.str z)) (.val (.int (k : Nat))) (.val (.int (w : Nat))) x7 x8 L st3) := sSet_ok e3
  have pu := pures_strs L
  have te : tE (fCmpR opIn (fVar 4) (pOwn 3)) (nmS many (.val (.str z)) (.val (.int (k : Nat))) (.val (.int (w : Nat))) x7 x8 L st3) = .ok (decide (z ∈ L)) (nmS many (.val (.str z)) (.val (.int (k : Nat))) (.val (.int (w : Nat))) x7 x8 L st3) := by
    simp [fCmpR, in_strs8, pu, T.pure]
  have fin : ∀ (y : Str) (x8 : Slot) (st : List O), sExpr (fMut muApp (pOwn 3) (aCons (fVar 4) aNil)) (nmS many (.val (.str y)) (.val (.int (k : Nat))) (.val (.int (w : Nat))) x7 x8 L st) = .ok .nx (nmS many (.val (.str y)) (.val (.int (k : Nat))) (.val (.int (w : Nat))) x7 x8 (L ++ [y]) st) := fun y x8 st => by
    have := app_ok (i := 3) (k := 0) (f := fVar 4) (s := nmS many (.val (.str y)) (.val (.int (k : Nat))) (.val (.int (w : Nat))) x7 x8 L st) (t := .str y) (ts0 := L.map .str) (ts := L.map .str) rfl rfl rfl rfl (by rw [List.length_map]; omega)
    rw [this]
    simp [nmS]
  by_cases q : z ∈ L
  · rw [decide_eq_true q] at te
    obtain ⟨y, st4, yn, yo, d4, e4, _⟩ := w_az (s := nmS many (.val (.str z)) (.val (.int (k : Nat))) (.val (.int (w : Nat))) x7 x8 L st3) (c := tE (fCmpR opNotIn (fVar 8) (pOwn 3))) (k := 2) (p := 8) (L := L) rfl rfl (by show 8 < 9; omega) (fun y => by
      simp [fCmpR, nin_strs8, pu, T.pure]) hl d3 (by omega)
    refine ⟨y, st4, _, _, _, _, _, yn, yo, d4.mono (by omega), seq_ok a1 (seq_ok a2 (seq_ok (sIf_t te (sSet_ok e4)) (fin y x8 st4)))⟩
  · rw [decide_eq_false q] at te
    exact ⟨z, st3, _, _, _, _, _, q, zo, d3.mono (by omega), seq_ok a1 (seq_ok a2 (seq_ok (sIf_f te rfl) (fin z x8 st3)))⟩
theorem c_names8 {many m : Nat} (hn : many ≤ 20) {st : List O} (hd : Dq B m st) (hm : m + 300 ≤ 1000000) :
    ∃ (zs : List Str) (st' : List O), zs.length = many ∧ Rise zs ∧ (∀ z ∈ zs, NameOk z) ∧ Dq B (m + 12 * many) st' ∧ ∀ env lo, callF F__law_names [.loc 0, .int (many : Nat)] ⟨env, lo, st⟩ = .ok (.val (.tup (zs.map .str))) ⟨env, lo, st'⟩ := by
  let P : Nat → S → Prop := fun n s => ∃ (L : List Str) (x4 x5 x6 x7 x8 : Slot) (st1 : List O), s = nmS many x4 x5 x6 x7 x8 L st1 ∧ n = many - L.length ∧ L.length ≤ many ∧ L.Nodup ∧ (∀ z ∈ L, NameOk z) ∧ Dq B (m + 12 * L.length) st1
  let Q : S → Prop := fun s => ∃ (L : List Str) (x4 x5 x6 x7 x8 : Slot) (st1 : List O), s = nmS many x4 x5 x6 x7 x8 L st1 ∧ L.length = many ∧ L.Nodup ∧ (∀ z ∈ L, NameOk z) ∧ Dq B (m + 12 * many) st1
  have cnd : ∀ (L : List Str) (x4 x5 x6 x7 x8 : Slot) (st1 : List O), tE (fBin opLt (fLenP (pOwn 3)) (fVar 1)) (nmS many x4 x5 x6 x7 x8 L st1) = .ok (decide (L.length < many)) (nmS many x4 x5 x6 x7 x8 L st1) := fun L x4 x5 x6 x7 x8 st1 => by
    refine r_tE (r_bin (x := .int (L.length : Nat)) (y := .int (many : Nat)) (s1 := nmS many x4 x5 x6 x7 x8 L st1) ?_ rfl ?_)
    · show R.ok (T.int (L.map T.str).length) _ = _
      rw [List.length_map]
    · show some (T.bl (decide ((L.length : Int) < many))) = _
      rw [show (decide ((L.length : Int) < many)) = decide (L.length < many) from decide_eq_decide.mpr (by omega)]
  obtain ⟨s', e, L, x4, x5, x6, x7, x8, st1, rfl, ll, nd, ok, d1⟩ := loopW_inv (c := tE (fBin opLt (fLenP (pOwn 3)) (fVar 1))) (f := bNm) P Q (by
    rintro s ⟨L, x4, x5, x6, x7, x8, st1, rfl, hz, l, nd, ok, d⟩
    have hL : L.length = many := by omega
    refine ⟨_, by rw [cnd, decide_eq_false (by omega)], L, x4, x5, x6, x7, x8, st1, rfl, hL, nd, ok, hL ▸ d⟩) (by
    rintro n s ⟨L, x4, x5, x6, x7, x8, st1, rfl, hz, l, nd, ok, d⟩
    obtain ⟨z, st2, y4, y5, y6, y7, y8, zn, zo, d2, e2⟩ := nm_step (many := many) (x4 := x4) (x5 := x5) (x6 := x6) (x7 := x7) (x8 := x8) (L := L) (by omega) nd ok d (by omega)
    refine ⟨_, _, by rw [cnd, decide_eq_true (by omega)], e2, L ++ [z], y4, y5, y6, y7, y8, st2, rfl, ?_, ?_, ?_, ?_, ?_⟩
    · rw [List.length_append, List.length_singleton]; omega
    · rw [List.length_append, List.length_singleton]; omega
    · rw [List.nodup_append]
      exact ⟨nd, by simp, fun a ma b mb => by rw [List.mem_singleton] at mb; exact fun e => zn (mb ▸ e ▸ ma)⟩
    · intro y my
      rcases List.mem_append.mp my with my | my
      · exact ok y my
      · rw [List.mem_singleton.mp my]; exact zo
    · rw [List.length_append, List.length_singleton]
      exact d2.mono (by omega)) many 1000000 (nmS many .un .un .un .un .un [] st) ⟨[], _, _, _, _, _, st, rfl, rfl, Nat.zero_le _, .nil, by simp, hd⟩ (by omega)
  obtain ⟨ys, pm, es, ri⟩ := sort_strs nd
  refine ⟨ys, st1, by rw [pm.length_eq, ll], ri, fun z mz => ok z (pm.mem_iff.mp mz), d1, fun env lo => ?_⟩
  refine callF_gv (s := ⟨env, lo, st⟩) (gv_ret (np := 2) (nn := 9) (f := v__law_names) rfl (s := nmS many x4 x5 x6 x7 x8 L st1) ?_)
  refine seq_ok (s1 := nmS many .un .un .un .un .un [] st) rfl (seq_ok (s1 := nmS many x4 x5 x6 x7 x8 L st1) e ?_)
  refine r_ret ?_
  have so : srtOk (L.map T.str) = true := srtOk_strs (by omega)
  simp [fTupQ, aSort, qPl, so, es]
end L2.Z.D
set_option Elab.async false
set_option linter.all false
set_option maxRecDepth 100000
set_option maxHeartbeats 2000000
set_option exponentiation.threshold 500
namespace L2.Z.D
open PySem PySem.Spec PyProof.Rows
variable {B : List O}
end L2.Z.D
set_option Elab.async false
set_option linter.all false
set_option maxRecDepth 100000
set_option maxHeartbeats 2000000
set_option exponentiation.threshold 500
namespace L2.Z.D
open PySem PySem.Spec PyProof.Rows
variable {B : List O}
theorem sl_eq8 {a b : Str × Str} : opEq (eSl a) (eSl b) = some (.bl (decide (a = b))) := by
  rw [opEq_cl (cl_eSl a) (cl_eSl b) (.inl (dep_mono (dep_eSl a) (by omega)))]
  congr 2
  by_cases h : a = b
  · subst h
    simp [eqb_refl]
  · have : eqb (eSl a) (eSl b) = false := eqb_ne (cl_eSl a) (cl_eSl b) fun q => by
      simp [eSl] at q
      exact h (Prod.ext q.1 q.2)
    rw [this, decide_eq_false h]
theorem rng_nI (n : Nat) : rngT 0 n = (List.range n).map nI := by
  unfold rngT nI
  refine List.map_congr_left fun k _ => ?_
  rw [Int.zero_add]
theorem ix_last {α : Type} (l : List α) (x : α) : ixAt (l ++ [x]) (-1) = some x := by
  unfold ixAt
  have hl : (l ++ [x]).length = l.length + 1 := by simp
  rw [if_neg (by decide), hl, if_pos (by omega)]
  have : ((-1 : Int) + ((l.length + 1 : Nat) : Int)).toNat = l.length := by omega
  rw [this]
  simp
abbrev bOrd : Sv := sSeq (sExpr (fMut muApp (pOwn 4) (aCons (fVal (fCall F__law_pick (aCons (fVar 0) (aCons (fLst (aLcP (pOwn 3) (pName 5) (tE (fBin opEq (fBin opIx (fVar 1) (fVar 5)) (fVar 2))) (fVar 5) [5])) aNil)))) aNil))) (sExpr (fMut muRem (pOwn 3) (aCons (fIxP (pOwn 4) (fUn opNeg (fC (.int 1)))) aNil)))
abbrev orS (held : List (Str × Str)) (x2 x5 : Slot) (left found : List Nat) (st : List O) : S := ⟨[.val (.loc 0), .val (.lst (held.map eSl)), x2, .own 1, .own 0, x5], [.lst (found.map nI), .lst (left.map nI)], st⟩
theorem ord_left {held : List (Str × Str)} {found left : List Nat} (hp : (found ++ left).Perm (List.range held.length)) (ha : ∀ (j k : Nat), found[j]? = some k → held[k]? = held[j]?) {s : Str × Str} (hs : held[found.length]? = some s) : ∃ k ∈ left, held[k]? = some s := by
  have hp2 : ((found ++ left).map fun k => held[k]?).Perm (held.map some) := by
    refine (hp.map _).trans ?_
    have : (List.range held.length).map (fun k => held[k]?) = held.map some := by
      refine List.ext_getElem? fun i => ?_
      rw [List.getElem?_map, List.getElem?_map]
      by_cases h : i < held.length
      · rw [List.getElem?_range h, List.getElem?_eq_getElem h]
        simp [List.getElem?_eq_getElem h]
      · rw [List.getElem?_eq_none (by simpa using h), List.getElem?_eq_none (by simpa using h)]
        rfl
    rw [this]
  have hf : found.map (fun k => held[k]?) = (held.take found.length).map some := by
    have lf : found.length < held.length := (List.getElem?_eq_some_iff.mp hs).1
    refine List.ext_getElem? fun i => ?_
    rw [List.getElem?_map, List.getElem?_map]
    by_cases h : i < found.length
    · rw [List.getElem?_take, if_pos h, List.getElem?_eq_getElem h]
      have e := ha i _ (List.getElem?_eq_getElem h)
      show some (held[found[i]]?) = _
      rw [e, List.getElem?_eq_getElem (by omega)]
      rfl
    · rw [List.getElem?_eq_none (by simpa using h), List.getElem?_eq_none (by rw [List.length_take]; omega)]
      rfl
  rw [List.map_append, hf] at hp2
  have e2 : held.map some = (held.take found.length).map some ++ (held.drop found.length).map some := by
    rw [← List.map_append, List.take_append_drop]
  rw [e2, List.perm_append_left_iff] at hp2
  have m : some s ∈ (held.drop found.length).map some := List.mem_map.mpr ⟨s, List.mem_of_getElem? (i := 0) (by rw [List.getElem?_drop]; exact hs), rfl⟩
  obtain ⟨k, mk, e⟩ := List.mem_map.mp (hp2.mem_iff.mpr m)
  exact ⟨k, mk, e⟩
theorem ord_step {held : List (Str × Str)} (hl : held.length ≤ 4) {found left : List Nat} (hp : (found ++ left).Perm (List.range held.length)) (ha : ∀ (j k : Nat), found[j]? = some k → held[k]? = held[j]?) {s : Str × Str} (hs : held[found.length]? = some s) {x5 : Slot} {m : Nat} {st : List O} (hd : Dq B m st) (hm : m + 2 ≤ 1000000) :
    ∃ (k : Nat) (st' : List O), k ∈ left ∧ held[k]? = some s ∧ Dq B (m + 1) st' ∧ bOrd (orS held (.val (eSl s)) x5 left found st) = .ok .nx (orS held (.val (eSl s)) x5 (left.erase k) (found ++ [k]) st') := by
  have lt : ∀ k ∈ left, k < held.length := fun k mk => List.mem_range.mp (hp.mem_iff.mp (List.mem_append.mpr (.inr mk)))
  have ll : left.length ≤ held.length := by
    have := hp.length_eq
    rw [List.length_append, List.length_range] at this
    omega
  have lf : found.length ≤ held.length := by
    have := hp.length_eq
    rw [List.length_append, List.length_range] at this
    omega
  have lc : aLcP (pOwn 3) (pName 5) (tE (fBin opEq (fBin opIx (fVar 1) (fVar 5)) (fVar 2))) (fVar 5) [5] (orS held (.val (eSl s)) x5 left found st) = .ok ((left.filter fun k => decide (held[k]? = some s)).map nI) (orS held (.val (eSl s)) x5 left found st) := by
    refine aLcP_fil (pl := .own 1) (l := left) (en := nI) rfl (fun s' h1 h2 => ?_) fun k mk => ?_
    · rw [x_lstAt, x_at1, h1]
      rfl
    · obtain ⟨q, hq⟩ : ∃ q, held[k]? = some q := ⟨_, List.getElem?_eq_getElem (lt k mk)⟩
      refine ⟨⟨[.val (.loc 0), .val (.lst (held.map eSl)), .val (eSl s), .own 1, .own 0, .val (nI k)], [.lst (found.map nI), .lst (left.map nI)], st⟩, rfl, ?_, fun _ => rfl, rfl, rfl, rfl⟩
      refine r_tE (r_bin (f := fBin opIx (fVar 1) (fVar 5)) (h := fVar 2) (x := eSl q) (y := eSl s) (r_bin (f := fVar 1) (h := fVar 5) (x := .lst (held.map eSl)) (y := nI k) rfl rfl (x_ixN (by rw [List.getElem?_map, hq]; rfl))) rfl ?_)
      rw [sl_eq8, hq]
      congr 2
      exact decide_eq_decide.mpr ⟨fun e => by rw [e], fun e => by injection e⟩
  obtain ⟨k0, m0, e0⟩ := ord_left hp ha hs
  have ne : 0 < (left.filter fun k => decide (held[k]? = some s)).length := List.length_pos_of_mem (List.mem_filter.mpr ⟨m0, decide_eq_true e0⟩)
  have le : (left.filter fun k => decide (held[k]? = some s)).length ≤ left.length := List.length_filter_le _ _
  obtain ⟨k, mk, st', d1, ck⟩ := c_pickL nI ne (by omega) hd (by omega)
  rw [List.mem_filter] at mk
  refine ⟨k, st', mk.1, of_decide_eq_true mk.2, d1, seq_ok (s1 := orS held (.val (eSl s)) x5 left (found ++ [k]) st') ?_ ?_⟩
  · have := app_ok (i := 4) (k := 0) (f := fVal (fCall F__law_pick (aCons (fVar 0) (aCons (fLst (aLcP (pOwn 3) (pName 5) (tE (fBin opEq (fBin opIx (fVar 1) (fVar 5)) (fVar 2))) (fVar 5) [5])) aNil)))) (s := orS held (.val (eSl s)) x5 left found st) (s1 := orS held (.val (eSl s)) x5 left found st') (t := nI k) (ts0 := found.map nI) (ts := found.map nI) rfl rfl (r_call (r_two (f := fVar 0) (a := .loc 0) (s1 := orS held (.val (eSl s)) x5 left found st) rfl (r_lst lc)) (ck _ _)) rfl (by rw [List.length_map]; omega)
    rw [this]
    simp [orS]
  · have e1 : aCons (fIxP (pOwn 4) (fUn opNeg (fC (.int 1)))) aNil (orS held (.val (eSl s)) x5 left (found ++ [k]) st') = .ok [nI k] (orS held (.val (eSl s)) x5 left (found ++ [k]) st') := by
      refine r_one ?_
      have := ix_last (found.map nI) (nI k)
      have e2 : fUn opNeg (fC (.int 1)) (orS held (.val (eSl s)) x5 left (found ++ [k]) st') = .ok (.int (-1)) (orS held (.val (eSl s)) x5 left (found ++ [k]) st') := rfl
      rw [x_fIxP]
      rw [show pOwn 4 (orS held (.val (eSl s)) x5 left (found ++ [k]) st') = .ok (.own 0) (orS held (.val (eSl s)) x5 left (found ++ [k]) st') from rfl, Rbind_ok, e2, Rbind_ok]
      show ofO (ixAt ((found ++ [k]).map nI) (-1)) _ = _
      rw [List.map_append, List.map_singleton, this]
      rfl
    have := fMut_ok (op := muRem) (fp := pOwn 3) (p := .own 1) (s := orS held (.val (eSl s)) x5 left (found ++ [k]) st') (ts0 := left.map nI) (ts := left.map nI) rfl rfl e1 rfl (rem_nI mk.1)
    exact sExpr_ok this
theorem c_order {held : List (Str × Str)} (hl : held.length ≤ 4) {m : Nat} {st : List O} (hd : Dq B m st) (hm : m + 20 ≤ 1000000) :
    ∃ (o : List Nat) (st' : List O), OrdOk held o ∧ Dq B (m + 4) st' ∧ ∀ env lo, callF F__law_order [.loc 0, .lst (held.map eSl)] ⟨env, lo, st⟩ = .ok (.val (eOrd o)) ⟨env, lo, st'⟩ := by
  let P : List T → S → Prop := fun ts s => ∃ (found left : List Nat) (x2 x5 : Slot) (st1 : List O), s = orS held x2 x5 left found st1 ∧ ts = (held.drop found.length).map eSl ∧ found.length ≤ held.length ∧ (found ++ left).Perm (List.range held.length) ∧ (∀ (j k : Nat), found[j]? = some k → held[k]? = held[j]?) ∧ Dq B (m + found.length) st1
  obtain ⟨s', e, found, left, x2, x5, st1, rfl, hz, hf, hp, ha, d1⟩ := loopF_inv (p := pName 2) (f := bOrd) P (by
    rintro t r s ⟨found, left, x2, x5, st1, rfl, hz, hf, hp, ha, d1⟩
    have lt : found.length < held.length := by
      rcases Nat.lt_or_ge found.length held.length with h | h
      · exact h
      · rw [List.drop_eq_nil_of_le h] at hz
        cases hz
    rw [List.drop_eq_getElem_cons lt, List.map_cons] at hz
    obtain ⟨rfl, rfl⟩ := List.cons.inj hz
    obtain ⟨k, st2, mk, ek, d2, e2⟩ := ord_step hl hp ha (List.getElem?_eq_getElem lt) (x5 := x5) d1 (by omega)
    refine ⟨orS held (.val (eSl held[found.length])) x5 left found st1, .nx, _, rfl, e2, .inl rfl, found ++ [k], left.erase k, _, x5, st2, rfl, ?_, ?_, ?_, ?_, ?_⟩
    · rw [List.length_append, List.length_singleton]
    · rw [List.length_append, List.length_singleton]; omega
    · rw [List.append_assoc]
      exact ((List.perm_cons_erase mk).symm.append_left found).trans hp
    · intro j i hj
      rw [List.getElem?_append] at hj
      split at hj
      · exact ha j i hj
      · rename_i nl
        have z : j - found.length = 0 := by
          have := (List.getElem?_eq_some_iff.mp hj).1
          simpa using this
        rw [z] at hj
        cases hj
        have : j = found.length := by omega
        rw [this, ek, List.getElem?_eq_getElem lt]
    · rw [List.length_append, List.length_singleton]
      exact d2) (held.map eSl) (orS held .un .un (List.range held.length) [] st) ⟨[], List.range held.length, _, _, st, rfl, by simp, Nat.zero_le _, by simp, by simp, by simpa using hd⟩
  have lf : held.length ≤ found.length := by
    rcases Nat.lt_or_ge found.length held.length with h | h
    · rw [List.drop_eq_getElem_cons h] at hz
      cases hz
    · exact h
  have l0 : left = [] := by
    have := hp.length_eq
    rw [List.length_append, List.length_range] at this
    exact List.length_eq_zero_iff.mp (by omega)
  subst l0
  rw [List.append_nil] at hp
  refine ⟨found, st1, ⟨by omega, fun k mk => List.mem_range.mp (hp.mem_iff.mp mk), hp.nodup_iff.mpr List.nodup_range, fun j k h => ha j k h⟩, d1.mono (by omega), fun env lo => ?_⟩
  refine callF_gv (s := ⟨env, lo, st⟩) (gv_ret (np := 2) (nn := 6) (f := v__law_order) rfl (s := orS held x2 x5 [] found st1) ?_)
  have a1 : sPar [3, 4] (anCons (nLst (aRg (fCl clLen (aCons (fVar 1) aNil)))) (anCons (nLst (aLst aNil)) anNil)) (st0 6 [.loc 0, .lst (held.map eSl)] st) = .ok .nx (orS held .un .un (List.range held.length) [] st) := by
    have rg := rng_nI held.length
    have rk : -1000000 ≤ (held.length : Int) ∧ (held.length : Int) ≤ 1000000 := ⟨by omega, by omega⟩
    have q1 : nLst (aRg (fCl clLen (aCons (fVar 1) aNil))) (st0 6 [.loc 0, .lst (held.map eSl)] st) = .ok (.new (.lst ((List.range held.length).map nI))) (st0 6 [.loc 0, .lst (held.map eSl)] st) := by
      simp [st0, rk, rg]
    refine (r_par2 (is := [3, 4]) (h := nLst (aLst aNil)) q1 (s2 := st0 6 [.loc 0, .lst (held.map eSl)] st) (m := .new (.lst [])) rfl).trans ?_
    simp [st0, orS]
  refine seq_ok a1 (seq_ok (s1 := orS held x2 x5 [] found st1) ?_ ?_)
  · rw [x_sFor]
    exact e
  · refine r_ret ?_
    show R.ok (T.tup (found.map nI)) _ = _
    rfl
end L2.Z.D
set_option Elab.async false
set_option linter.all false
set_option maxRecDepth 100000
set_option maxHeartbeats 2000000
set_option exponentiation.threshold 500
namespace L2.Z.D
open PySem PySem.Spec PyProof.Rows
variable {B : List O}
abbrev gEnv (sp : List Str) (x1 x4 x5 x6 x7 x8 : Slot) : List Slot := [.val (.loc 0), x1, .val (.tup (sp.map .str)), .own 0, x4, x5, x6, x7, x8]
abbrev gLo (bs : List Bx) (J : List O) : List O := .lst (bs.map eBx) :: J
abbrev bHeld : Sv := sSeq (sSet 8 (fTup (aCons (fVal (fCall F__law_pick (aCons (fVar 0) (aCons (fVar 2) aNil)))) (aCons (fVal (fCall F__law_pick (aCons (fVar 0) (aCons (fLst (aLst (aCons (fC (.str ("up" : Str))) (aCons (fC (.str ("down" : Str))) aNil)))) aNil)))) aNil)))) (sExpr (fMut muApp (pOwn 6) (aCons (fIf (tOrZ (tE (fBin opEq (fVar 7) (fC (.int 0)))) (tE (fCmpP opEq (pOwn 6) (fLst (aLst aNil))))) (fVar 8) (fIxP (pOwn 6) (fC (.int 0)))) aNil)))
theorem t_cmpP {op : T → T → Option T} {i n : Nat} {h : Ev} {s : S} {ts : List T} {y : T} {b : Bool} (h1 : s.env[i]? = some (.own n)) (h2 : s.lo[n]? = some (.lst ts)) (h3 : h s = .ok y s) (p1 : pures ts = true) (p2 : y.pure = true) (h4 : op (.lst ts) y = some (.bl b)) :
    tE (fCmpP op (pOwn i) h) s = .ok b s := by
  have l0 : s.lstAt (.own n) = some ts := by rw [x_lstAt, x_at1, h2]
  refine r_tE ?_
  unfold fCmpP
  rw [x_pOwn, h1]
  dsimp only
  rw [Rbind_ok, h3, Rbind_ok, l0]
  dsimp only
  simp only [p1, p2, h4, and_self, if_true]
theorem held_step {sp : List Str} (h1 : 1 ≤ sp.length) (h3 : sp.length ≤ 3) {bs : List Bx} {J : List O} {held : List (Str × Str)} (hh : held.length ≤ 10) (ho : ∀ s ∈ held, SlOk sp s) {way : Nat} {x1 x4 x5 x8 : Slot} {m : Nat} {st : List O} (hd : Dq B m st) (hm : m + 2 ≤ 1000000) :
    ∃ (s : Str × Str) (st' : List O) (y8 : Slot), SlOk sp s ∧ Dq B (m + 2) st' ∧ bHeld ⟨gEnv sp x1 x4 x5 (.own (J.length + 1)) (.val (.int (way : Nat))) x8, gLo bs (J ++ [.lst (held.map eSl)]), st⟩ = .ok .nx ⟨gEnv sp x1 x4 x5 (.own (J.length + 1)) (.val (.int (way : Nat))) y8, gLo bs (J ++ [.lst ((held ++ [s]).map eSl)]), st'⟩ := by
  obtain ⟨a, ma, st1, d1, c1⟩ := c_pickT T.str (L := sp) (by omega) (by omega) hd (by omega)
  obtain ⟨b, mb, st2, d2, c2⟩ := c_pickL T.str (L := [upS, dnS]) (by decide) (by decide) d1 (by omega)
  have so : SlOk sp (a, b) := ⟨ma, by simpa using mb⟩
  let E (x8 : Slot) (l : List (Str × Str)) (st : List O) : S := ⟨gEnv sp x1 x4 x5 (.own (J.length + 1)) (.val (.int (way : Nat))) x8, gLo bs (J ++ [.lst (l.map eSl)]), st⟩
  have loAt : ∀ l : List (Str × Str), (gLo bs (J ++ [.lst (l.map eSl)]))[J.length + 1]? = some (O.lst (l.map eSl)) := fun l => by
    show (J ++ [O.lst (l.map eSl)])[J.length]? = _
    simp
  have a1 : sSet 8 (fTup (aCons (fVal (fCall F__law_pick (aCons (fVar 0) (aCons (fVar 2) aNil)))) (aCons (fVal (fCall F__law_pick (aCons (fVar 0) (aCons (fLst (aLst (aCons (fC (.str ("up" : Str))) (aCons (fC (.str ("down" : Str))) aNil)))) aNil)))) aNil))) (E x8 held st) = .ok .nx (E (.val (eSl (a, b))) held st2) := by
    refine sSet_ok (t := eSl (a, b)) (s1 := E x8 held st2) (r_tup (r_two (a := .str a) (b := .str b) (s1 := E x8 held st1) ?_ ?_) (Nat.le_of_ble_eq_true rfl))
    · exact r_call (r_two (f := fVar 0) (h := fVar 2) (a := .loc 0) (b := .tup (sp.map .str)) (s1 := E x8 held st) (s2 := E x8 held st) rfl rfl) (c1 _ _)
    · exact r_call (r_two (f := fVar 0) (a := .loc 0) (b := .lst [.str upS, .str dnS]) (s1 := E x8 held st1) (s2 := E x8 held st1) rfl rfl) (c2 _ _)
  have fin : ∀ s : Str × Str, fIf (tOrZ (tE (fBin opEq (fVar 7) (fC (.int 0)))) (tE (fCmpP opEq (pOwn 6) (fLst (aLst aNil))))) (fVar 8) (fIxP (pOwn 6) (fC (.int 0))) (E (.val (eSl (a, b))) held st2) = .ok (eSl s) (E (.val (eSl (a, b))) held st2) → sExpr (fMut muApp (pOwn 6) (aCons (fIf (tOrZ (tE (fBin opEq (fVar 7) (fC (.int 0)))) (tE (fCmpP opEq (pOwn 6) (fLst (aLst aNil))))) (fVar 8) (fIxP (pOwn 6) (fC (.int 0)))) aNil)) (E (.val (eSl (a, b))) held st2) = .ok .nx (E (.val (eSl (a, b))) (held ++ [s]) st2) := fun s e => by
    have := app_ok (i := 6) (k := J.length + 1) (s := E (.val (eSl (a, b))) held st2) (t := eSl s) (ts0 := held.map eSl) (ts := held.map eSl) rfl (loAt held) e (loAt held) (by rw [List.length_map]; omega)
    rw [this]
    have e2 : (gLo bs (J ++ [O.lst (held.map eSl)])).set (J.length + 1) (.lst (held.map eSl ++ [eSl s])) = gLo bs (J ++ [.lst ((held ++ [s]).map eSl)]) := by
      rw [List.map_append]
      show O.lst (bs.map eBx) :: (J ++ [O.lst (held.map eSl)]).set J.length _ = _
      simp
    show R.ok Fl.nx (⟨_, (gLo bs (J ++ [O.lst (held.map eSl)])).set (J.length + 1) _, _⟩ : S) = _
    rw [e2]
  have t1 : tE (fBin opEq (fVar 7) (fC (.int 0))) (E (.val (eSl (a, b))) held st2) = .ok (decide (way = 0)) (E (.val (eSl (a, b))) held st2) := by
    refine r_tE (r_bin (f := fVar 7) (h := fC (.int 0)) (x := .int (way : Nat)) (y := .int 0) rfl rfl ?_)
    rw [opEq_cl rfl rfl (.inl (Nat.zero_le _))]
    congr 2
    show decide ((way : Int) = 0) = _
    exact decide_eq_decide.mpr (by omega)
  cases held with
  | nil =>
    have t2 : tE (fCmpP opEq (pOwn 6) (fLst (aLst aNil))) (E (.val (eSl (a, b))) [] st2) = .ok true (E (.val (eSl (a, b))) [] st2) := by
      have l0 : (gLo bs (J ++ [O.lst []]))[J.length + 1]? = some (O.lst []) := loAt []
      have qq : opEq (.lst []) (.lst []) = some (.bl true) := by rw [opEq_cl rfl rfl (.inl (by decide))]; rfl
      simp [fCmpP, E, l0, qq, pures, T.pure]
    refine ⟨(a, b), st2, _, so, d2, seq_ok a1 (fin (a, b) (r_ifT (s1 := E (.val (eSl (a, b))) [] st2) ?_ rfl))⟩
    by_cases w0 : way = 0
    · rw [decide_eq_true w0] at t1
      exact r_or1 t1
    · rw [decide_eq_false w0] at t1
      exact r_or2 t1 t2
  | cons s0 rest =>
    have t2 : tE (fCmpP opEq (pOwn 6) (fLst (aLst aNil))) (E (.val (eSl (a, b))) (s0 :: rest) st2) = .ok false (E (.val (eSl (a, b))) (s0 :: rest) st2) := by
      have l0 := loAt (s0 :: rest)
      have qq : opEq (.lst ((s0 :: rest).map eSl)) (.lst []) = some (.bl false) := by
        rw [opEq_cl (by rw [cl_lst]; exact cls_map fun _ _ => cl_eSl _) rfl (.inr (by decide))]
        rfl
      have pu : pures ((s0 :: rest).map eSl) = true := (cls_ok (cls_map fun _ _ => cl_eSl _)).2
      exact t_cmpP (i := 6) (n := J.length + 1) (h := fLst (aLst aNil)) (y := .lst []) rfl l0 rfl pu rfl qq
    by_cases w0 : way = 0
    · rw [decide_eq_true w0] at t1
      exact ⟨(a, b), st2, _, so, d2, seq_ok a1 (fin (a, b) (r_ifT (s1 := E (.val (eSl (a, b))) (s0 :: rest) st2) (r_or1 t1) rfl))⟩
    · rw [decide_eq_false w0] at t1
      refine ⟨s0, st2, _, ho s0 (List.mem_cons_self ..), d2, seq_ok a1 (fin s0 (r_ifF (s1 := E (.val (eSl (a, b))) (s0 :: rest) st2) (r_or2 t1 t2) ?_))⟩
      rw [x_fIxP, show pOwn 6 (E (.val (eSl (a, b))) (s0 :: rest) st2) = .ok (.own (J.length + 1)) (E (.val (eSl (a, b))) (s0 :: rest) st2) from rfl, Rbind_ok, show fC (.int 0) (E (.val (eSl (a, b))) (s0 :: rest) st2) = .ok (.int 0) (E (.val (eSl (a, b))) (s0 :: rest) st2) from rfl, Rbind_ok, x_lstAt, x_at1, loAt (s0 :: rest)]
      rfl
theorem helds {sp : List Str} (h1 : 1 ≤ sp.length) (h3 : sp.length ≤ 3) {bs : List Bx} {J : List O} {way n : Nat} (hn : n ≤ 4) {x1 x4 x5 x8 : Slot} {m : Nat} {st : List O} (hd : Dq B m st) (hm : m + 20 ≤ 1000000) :
    ∃ (held : List (Str × Str)) (st' : List O) (y4 y8 : Slot), held.length = n ∧ (∀ s ∈ held, SlOk sp s) ∧ Dq B (m + 2 * n) st' ∧ loopF (pName 4) bHeld (rngT 0 n) ⟨gEnv sp x1 x4 x5 (.own (J.length + 1)) (.val (.int (way : Nat))) x8, gLo bs (J ++ [.lst []]), st⟩ = .ok .nx ⟨gEnv sp x1 y4 x5 (.own (J.length + 1)) (.val (.int (way : Nat))) y8, gLo bs (J ++ [.lst (held.map eSl)]), st'⟩ := by
  have ln : (rngT 0 n).length = n := by simp [rngT]
  let P : List T → S → Prop := fun ts s => ∃ (held : List (Str × Str)) (x4 x8 : Slot) (st1 : List O), s = ⟨gEnv sp x1 x4 x5 (.own (J.length + 1)) (.val (.int (way : Nat))) x8, gLo bs (J ++ [.lst (held.map eSl)]), st1⟩ ∧ held.length + ts.length = n ∧ (∀ s ∈ held, SlOk sp s) ∧ Dq B (m + 2 * held.length) st1
  obtain ⟨s', e, held, y4, y8, st1, rfl, hz, ho, d1⟩ := loopF_inv (p := pName 4) (f := bHeld) P (by
    rintro t r s ⟨held, x4, x8, st1, rfl, hz, ho, d1⟩
    rw [List.length_cons] at hz
    obtain ⟨q, st2, y8, oq, d2, e2⟩ := held_step h1 h3 (bs := bs) (J := J) (held := held) (by omega) ho (way := way) (x1 := x1) (x4 := .val t) (x5 := x5) (x8 := x8) d1 (by omega)
    refine ⟨_, .nx, _, rfl, e2, .inl rfl, held ++ [q], .val t, y8, st2, rfl, ?_, ?_, ?_⟩
    · rw [List.length_append, List.length_singleton]; omega
    · intro y my
      rcases List.mem_append.mp my with my | my
      · exact ho y my
      · rw [List.mem_singleton.mp my]; exact oq
    · rw [List.length_append, List.length_singleton]
      exact d2.mono (by omega)) (rngT 0 n) ⟨gEnv sp x1 x4 x5 (.own (J.length + 1)) (.val (.int (way : Nat))) x8, gLo bs (J ++ [.lst []]), st⟩ ⟨[], x4, x8, st, rfl, by rw [ln]; simp, by simp, by simpa using hd⟩
  have hl : held.length = n := by simpa using hz
  exact ⟨held, st1, y4, y8, hl, ho, hl ▸ d1, e⟩
abbrev eMove : Ev := fTup (aCons (fVal (fCall F__law_order (aCons (fVar 0) (aCons (fVar 6) aNil)))) (aCons (fVal (fCall F__law_pick (aCons (fVar 0) (aCons (fLst (aLst (aCons (fC (.int 1)) (aCons (fUn opNeg (fC (.int 1))) aNil)))) aNil)))) aNil))
abbrev bBox8 : Sv := sSeq (sPar [6, 7] (anCons (nLst (aLst aNil)) (anCons (nVal (eDraw (fC (.int 2)))) anNil))) (sSeq (sFor (iRng1 (aCons (eDraw (fC (.int 5))) aNil)) (pName 4) bHeld) (sGive 6 (sSeq (sSet 5 (fTupQ (aLc (iRng1 (aCons (eDraw (fC (.int 4))) aNil)) (pName 4) tTrue eMove [4]))) (sExpr (fMut muApp (pOwn 3) (aCons (fTup (aCons (fVar 1) (aCons (fCl clTup (aCons (fVar 6) aNil)) (aCons (fVar 5) aNil)))) aNil))))))
theorem rng_draw {s s1 : S} {k : Int} {d : Nat} (hd : d < 1000) (h : eDraw (fC (.int k)) s = .ok (.int (d : Nat)) s1) : iRng1 (aCons (eDraw (fC (.int k))) aNil) s = .ok (rngT 0 d) s1 := by
  have rk : rngOk (d : Int) := ⟨by omega, by omega⟩
  unfold iRng1
  rw [r_one h, Rbind_ok]
  dsimp only
  rw [if_pos rk]
  rfl
theorem box_step {sp : List Str} (h1 : 1 ≤ sp.length) (h3 : sp.length ≤ 3) {bs : List Bx} (hb : bs.length ≤ 100) {J : List O} {nm : Str} (hn : NameOk nm) {x4 x5 x6 x7 x8 : Slot} {m : Nat} {st : List O} (hd : Dq B m st) (hm : m + 50 ≤ 1000000) :
    ∃ (b : Bx) (J' : List O) (st' : List O) (y4 y5 y6 y7 y8 : Slot), BxOk sp b ∧ b.name = nm ∧ Dq B (m + 30) st' ∧ bBox8 ⟨gEnv sp (.val (.str nm)) x4 x5 x6 x7 x8, gLo bs J, st⟩ = .ok .nx ⟨gEnv sp (.val (.str nm)) y4 y5 y6 y7 y8, gLo (bs ++ [b]) J', st'⟩ := by
  let E (x4 x5 x6 x7 x8 : Slot) (lo : List O) (st : List O) : S := ⟨gEnv sp (.val (.str nm)) x4 x5 x6 x7 x8, lo, st⟩
  obtain ⟨way, st1, _, d1, e1⟩ := w_draw (s := E x4 x5 x6 x7 x8 (gLo bs J) st) (e := fC (.int 2)) (n := 2) rfl rfl hd (by omega) (by omega) (by omega)
  have a1 : sPar [6, 7] (anCons (nLst (aLst aNil)) (anCons (nVal (eDraw (fC (.int 2)))) anNil)) (E x4 x5 x6 x7 x8 (gLo bs J) st) = .ok .nx (E x4 x5 (.own (J.length + 1)) (.val (.int (way : Nat))) x8 (gLo bs (J ++ [.lst []])) st1) := r_par2 (is := [6, 7]) (f := nLst (aLst aNil)) (n := .new (.lst [])) (s1 := E x4 x5 x6 x7 x8 (gLo bs J) st) rfl (r_nVal e1)
  obtain ⟨n, st2, nl, d2, e2⟩ := w_draw (s := E x4 x5 (.own (J.length + 1)) (.val (.int (way : Nat))) x8 (gLo bs (J ++ [.lst []])) st1) (e := fC (.int 5)) (n := 5) rfl rfl d1 (by omega) (by omega) (by omega)
  obtain ⟨held, st3, y4, y8, hl, ho, d3, e3⟩ := helds h1 h3 (bs := bs) (J := J) (way := way) (n := n) (by omega) (x1 := .val (.str nm)) (x4 := x4) (x5 := x5) (x8 := x8) d2 (by omega)
  have a2 : sFor (iRng1 (aCons (eDraw (fC (.int 5))) aNil)) (pName 4) bHeld (E x4 x5 (.own (J.length + 1)) (.val (.int (way : Nat))) x8 (gLo bs (J ++ [.lst []])) st1) = .ok .nx (E y4 x5 (.own (J.length + 1)) (.val (.int (way : Nat))) y8 (gLo bs (J ++ [.lst (held.map eSl)])) st3) := by
    rw [x_sFor, rng_draw (by omega) e2, Rbind_ok]
    exact e3
  let G (x4 x5 : Slot) (st : List O) (bs : List Bx) : S := E x4 x5 (.val (.lst (held.map eSl))) (.val (.int (way : Nat))) y8 (gLo bs (J ++ [.dead])) st
  obtain ⟨k, st4, kl, d4, e4⟩ := w_draw (s := G y4 x5 st3 bs) (e := fC (.int 4)) (n := 4) rfl rfl d3 (by omega) (by omega) (by omega)
  have lk : (rngT 0 k).length = k := by simp [rngT]
  obtain ⟨ms, st5, lm, okm, d5, e5⟩ := draws_q (B := B) (p := pName 4) (f := eMove) (vs := [4]) (it := iRng1 (aCons (eDraw (fC (.int 4))) aNil)) (s := G y4 x5 st3 bs) (s1 := G y4 x5 st4 bs) (en := eMv) 5 (fun mv => OrdOk held mv.1 ∧ SgOk mv.2) (ts := rngT 0 k) (m := m + 1 + 1 + 2 * n + 1) (rng_draw (by omega) e4) d4 (by
    intro t mt j st6 dk hk
    rw [lk] at hk
    obtain ⟨o, st7, oo, d7, c7⟩ := c_order (held := held) (by omega) dk (by omega)
    obtain ⟨sg, ms, st8, d8, c8⟩ := c_pickL T.int (L := [1, -1]) (by decide) (by decide) d7 (by omega)
    refine ⟨(o, sg), st8, ⟨oo, by simpa [SgOk] using ms⟩, d8.mono (by omega), G (.val t) x5 st6 bs, G (.val t) x5 st8 bs, rfl, ?_, rfl, rfl, rfl⟩
    refine r_tup (r_two (a := eOrd o) (b := .int sg) (s1 := G (.val t) x5 st7 bs) ?_ ?_) (Nat.le_of_ble_eq_true rfl)
    · exact r_call (r_two (f := fVar 0) (h := fVar 6) (a := .loc 0) (b := .lst (held.map eSl)) (s1 := G (.val t) x5 st6 bs) (s2 := G (.val t) x5 st6 bs) rfl rfl) (c7 _ _)
    · exact r_call (r_two (f := fVar 0) (a := .loc 0) (b := .lst [.int 1, .int (-1)]) (s1 := G (.val t) x5 st7 bs) (s2 := G (.val t) x5 st7 bs) rfl rfl) (c8 _ _))
  rw [lk] at lm d5
  let b : Bx := ⟨nm, held, ms⟩
  have a3 : sSet 5 (fTupQ (aLc (iRng1 (aCons (eDraw (fC (.int 4))) aNil)) (pName 4) tTrue eMove [4])) (G y4 x5 st3 bs) = .ok .nx (G y4 (.val (.tup (ms.map eMv))) st5 bs) := by
    refine sSet_ok (s1 := G y4 x5 st5 bs) ?_
    rw [x_fTupQ, e5, Rbind_ok]
  have a4 : sExpr (fMut muApp (pOwn 3) (aCons (fTup (aCons (fVar 1) (aCons (fCl clTup (aCons (fVar 6) aNil)) (aCons (fVar 5) aNil)))) aNil)) (G y4 (.val (.tup (ms.map eMv))) st5 bs) = .ok .nx (G y4 (.val (.tup (ms.map eMv))) st5 (bs ++ [b])) := by
    have := app_ok (i := 3) (k := 0) (f := fTup (aCons (fVar 1) (aCons (fCl clTup (aCons (fVar 6) aNil)) (aCons (fVar 5) aNil)))) (s := G y4 (.val (.tup (ms.map eMv))) st5 bs) (s1 := G y4 (.val (.tup (ms.map eMv))) st5 bs) (t := eBx b) (ts0 := bs.map eBx) (ts := bs.map eBx) rfl rfl (r_tup (r_cons (f := fVar 1) (a := .str nm) rfl (r_two (f := fCl clTup (aCons (fVar 6) aNil)) (h := fVar 5) (a := .tup (held.map eSl)) (b := .tup (ms.map eMv)) (s1 := G y4 (.val (.tup (ms.map eMv))) st5 bs) rfl rfl)) (Nat.le_of_ble_eq_true rfl)) rfl (by rw [List.length_map]; omega)
    rw [this]
    simp [G, E]
  refine ⟨b, J ++ [.dead], st5, y4, .val (.tup (ms.map eMv)), .val (.lst (held.map eSl)), .val (.int (way : Nat)), y8, ⟨hn, by show held.length ≤ 4; omega, ho, by show ms.length ≤ 3; omega, okm⟩, rfl, d5.mono (by omega), seq_ok a1 (seq_ok a2 ?_)⟩
  have lo1 : (gLo bs (J ++ [O.lst (held.map eSl)]))[J.length + 1]? = some (O.lst (held.map eSl)) := by
    show (J ++ [O.lst (held.map eSl)])[J.length]? = _
    simp
  refine r_giveL (n := J.length + 1) (ts := held.map eSl) rfl lo1 ?_
  have lo2 : (gLo bs (J ++ [O.lst (held.map eSl)])).set (J.length + 1) .dead = gLo bs (J ++ [.dead]) := by
    show O.lst (bs.map eBx) :: (J ++ [O.lst (held.map eSl)]).set J.length _ = _
    simp
  show (sSeq _ _ (⟨_, (gLo bs (J ++ [O.lst (held.map eSl)])).set (J.length + 1) .dead, st3⟩ : S)) = _
  rw [lo2]
  exact seq_ok a3 a4
end L2.Z.D
set_option Elab.async false
set_option linter.all false
set_option maxRecDepth 100000
set_option maxHeartbeats 2000000
set_option exponentiation.threshold 500
namespace L2.Z.D
open PySem PySem.Spec PyProof.Rows
variable {B : List O}
theorem c_gear8 {m : Nat} {st : List O} (hd : Dq B m st) (hm : m + 2000 ≤ 1000000) :
    ∃ (g : Gr) (st' : List O), GrOk g ∧ Dq B (m + 1000) st' ∧ ∀ env lo, callF F__law_gear [.loc 0] ⟨env, lo, st⟩ = .ok (.val (eGr g)) ⟨env, lo, st'⟩ := by
  let E0 (st : List O) : S := ⟨[.val (.loc 0), .un, .un, .un, .un, .un, .un, .un, .un], [], st⟩
  obtain ⟨k, st1, kl, d1, e1⟩ := w_draw (s := E0 st) (e := fC (.int 3)) (n := 3) rfl rfl hd (by omega) (by omega) (by omega)
  obtain ⟨sp, st2, sl, sr, so, d2, c2⟩ := c_names8 (many := k + 1) (by omega) d1 (by omega)
  have a1 : fVal (fCall F__law_names (aCons (fVar 0) (aCons (fBin opAdd (fC (.int 1)) (eDraw (fC (.int 3)))) aNil))) (E0 st) = .ok (.tup (sp.map .str)) (E0 st2) := by
    refine r_call (r_two (f := fVar 0) (a := .loc 0) (b := .int ((k + 1 : Nat) : Int)) (s1 := E0 st) rfl (r_bin (f := fC (.int 1)) (x := .int 1) rfl e1 ?_)) (c2 _ _)
    show some (T.int (1 + (k : Int))) = _
    congr 2
    omega
  have a2 : sPar [2, 3] (anCons (nVal (fVal (fCall F__law_names (aCons (fVar 0) (aCons (fBin opAdd (fC (.int 1)) (eDraw (fC (.int 3)))) aNil))))) (anCons (nLst (aLst aNil)) anNil)) (E0 st) = .ok .nx ⟨gEnv sp .un .un .un .un .un .un, gLo [] [], st2⟩ := r_par2 (is := [2, 3]) (h := nLst (aLst aNil)) (m := .new (.lst [])) (r_nVal a1) (s2 := E0 st2) rfl
  let G (x1 x4 x5 x6 x7 x8 : Slot) (bs : List Bx) (J : List O) (st : List O) : S := ⟨gEnv sp x1 x4 x5 x6 x7 x8, gLo bs J, st⟩
  obtain ⟨n, st3, nl, d3, e3⟩ := w_draw (s := G .un .un .un .un .un .un [] [] st2) (e := fC (.int 9)) (n := 9) rfl rfl d2 (by omega) (by omega) (by omega)
  obtain ⟨zs, st4, zl, zr, zo, d4, c4⟩ := c_names8 (many := n) (by omega) d3 (by omega)
  have a3 : fVal (fCall F__law_names (aCons (fVar 0) (aCons (eDraw (fC (.int 9))) aNil))) (G .un .un .un .un .un .un [] [] st2) = .ok (.tup (zs.map .str)) (G .un .un .un .un .un .un [] [] st4) := by
    exact r_call (r_two (f := fVar 0) (a := .loc 0) (b := .int (n : Int)) (s1 := G .un .un .un .un .un .un [] [] st2) rfl e3) (c4 _ _)
  let P : List T → S → Prop := fun ts s => ∃ (bs : List Bx) (J : List O) (x1 x4 x5 x6 x7 x8 : Slot) (st1 : List O), s = G x1 x4 x5 x6 x7 x8 bs J st1 ∧ ts = (zs.drop bs.length).map .str ∧ bs.length ≤ zs.length ∧ (∀ b ∈ bs, BxOk sp b) ∧ bs.map (·.name) = zs.take bs.length ∧ Dq B (m + 1 + 12 * (k + 1) + 1 + 12 * n + 30 * bs.length) st1
  obtain ⟨s', e, bs, J, x1, x4, x5, x6, x7, x8, st5, rfl, hz, hl, ok, nms, d5⟩ := loopF_inv (p := pName 1) (f := bBox8) P (by
    rintro t r s ⟨bs, J, x1, x4, x5, x6, x7, x8, st1, rfl, hz, hl, ok, nms, d1⟩
    have lt : bs.length < zs.length := by
      rcases Nat.lt_or_ge bs.length zs.length with h | h
      · exact h
      · rw [List.drop_eq_nil_of_le h] at hz
        cases hz
    rw [List.drop_eq_getElem_cons lt, List.map_cons] at hz
    obtain ⟨rfl, rfl⟩ := List.cons.inj hz
    obtain ⟨b, J', st', y4, y5, y6, y7, y8, bo, bn, d2, e2⟩ := box_step (sp := sp) (by omega) (by omega) (bs := bs) (by omega) (J := J) (zo _ (List.getElem_mem lt)) (x4 := x4) (x5 := x5) (x6 := x6) (x7 := x7) (x8 := x8) d1 (by omega)
    refine ⟨_, .nx, _, rfl, e2, .inl rfl, bs ++ [b], J', _, y4, y5, y6, y7, y8, st', rfl, ?_, ?_, ?_, ?_, ?_⟩
    · rw [List.length_append, List.length_singleton]
    · rw [List.length_append, List.length_singleton]; omega
    · intro y my
      rcases List.mem_append.mp my with my | my
      · exact ok y my
      · rw [List.mem_singleton.mp my]; exact bo
    · rw [List.map_append, nms, List.length_append, List.length_singleton, List.take_succ, List.getElem?_eq_getElem lt]
      show _ ++ [b.name] = _
      rw [bn]
      rfl
    · rw [List.length_append, List.length_singleton]
      exact d2.mono (by omega)) (zs.map .str) (G .un .un .un .un .un .un [] [] st4) ⟨[], [], _, _, _, _, _, _, st4, rfl, rfl, Nat.zero_le _, by simp, rfl, d4.mono (by omega)⟩
  have bl : bs.length = zs.length := by
    rcases Nat.lt_or_ge bs.length zs.length with h | h
    · rw [List.drop_eq_getElem_cons h] at hz
      cases hz
    · omega
  refine ⟨⟨sp, bs⟩, st5, ⟨by show 1 ≤ sp.length; omega, by show sp.length ≤ 3; omega, so, sr, by show bs.length ≤ 8; omega, ok, ?_⟩, d5.mono (by omega), fun env lo => ?_⟩
  · show Rise (bs.map (·.name))
    rw [nms, bl, List.take_length]
    exact zr
  refine callF_gv (s := ⟨env, lo, st⟩) (gv_ret (np := 1) (nn := 9) (f := v__law_gear) rfl (s := G x1 x4 x5 x6 x7 x8 bs J st5) ?_)
  refine seq_ok a2 (seq_ok (s1 := G x1 x4 x5 x6 x7 x8 bs J st5) ?_ (r_ret (r_tup (r_two (f := fVar 2) (a := .tup (sp.map .str)) (b := .tup (bs.map eBx)) (s1 := G x1 x4 x5 x6 x7 x8 bs J st5) rfl rfl) (Nat.le_of_ble_eq_true rfl))))
  rw [x_sFor]
  rw [x_iTp, a3, Rbind_ok]
  exact e
end L2.Z.D
set_option Elab.async false
set_option linter.all false
set_option maxRecDepth 100000
set_option maxHeartbeats 1000000
namespace L2.Z.D
open PySem PySem.Spec PyProof.Rows
theorem lag {α : Type} [DecidableEq α] {co : α → List α} {U : α → Prop} {n : Nat} (hl : ∀ x, U x → (co x).length = n) (hn : ∀ x, U x → (co x).Nodup) (h1 : ∀ x, U x → x ∈ co x) (hs : ∀ x y, U x → y ∈ co x → ∀ z, z ∈ co y ↔ z ∈ co x) :
    ∀ (k : Nat) (G : List α), G.length ≤ k → G.Nodup → (∀ x ∈ G, U x) → (∀ x ∈ G, ∀ y ∈ co x, y ∈ G) → n ∣ G.length := by
  intro k
  induction k with
  | zero =>
    intro G hk _ _ _
    have : G.length = 0 := by omega
    rw [this]
    exact Nat.dvd_zero n
  | succ k ih =>
    intro G hk nd hU hc
    cases G with
    | nil => exact Nat.dvd_zero n
    | cons g r =>
      obtain ⟨G, eG⟩ : ∃ G, G = g :: r := ⟨_, rfl⟩
      rw [← eG] at hk nd hU hc ⊢
      have mg : g ∈ G := by rw [eG]; exact List.mem_cons_self ..
      have ug := hU g mg
      have p := List.filter_append_perm (fun x => decide (x ∈ co g)) G
      have e := p.length_eq
      rw [List.length_append] at e
      have pa : (G.filter fun x => decide (x ∈ co g)).Perm (co g) := by
        refine (List.perm_ext_iff_of_nodup (nd.sublist List.filter_sublist) (hn g ug)).mpr fun x => ⟨fun m => of_decide_eq_true (List.mem_filter.mp m).2, fun m => List.mem_filter.mpr ⟨hc g mg x m, decide_eq_true m⟩⟩
      have la := pa.length_eq
      rw [hl g ug] at la
      have l1 : 1 ≤ n := by
        rw [← hl g ug]
        exact List.length_pos_of_mem (h1 g ug)
      have := ih (G.filter fun x => !decide (x ∈ co g)) (by omega) (nd.sublist List.filter_sublist) (fun x m => hU x (List.mem_filter.mp m).1) fun x m y my => by
        obtain ⟨m1, m2⟩ := List.mem_filter.mp m
        have m2 : x ∉ co g := by simpa using m2
        refine List.mem_filter.mpr ⟨hc x m1 y my, ?_⟩
        have : y ∉ co g := fun q => m2 ((hs g y ug q x).mp ((hs x y (hU x m1) my x).mpr (h1 x (hU x m1))))
        simpa using this
      rw [← e, la]
      exact Nat.dvd_add (Nat.dvd_refl n) this
theorem lagG {α : Type} [DecidableEq α] {op : α → α → α} {U : α → Prop} {e : α} {iv : α → α} {H G : List α} (hU : ∀ x ∈ H, U x) (cl : ∀ x y, U x → U y → U (op x y)) (as : ∀ x y z, U x → U y → U z → op (op x y) z = op x (op y z))
    (ca : ∀ x y z, U x → U y → U z → op x y = op x z → y = z) (ur : ∀ x, U x → op x e = x) (ul : ∀ x, U x → op e x = x) (he : e ∈ H) (hiv : ∀ x ∈ H, iv x ∈ H ∧ op x (iv x) = e) (hm : ∀ x ∈ H, ∀ y ∈ H, op x y ∈ H)
    (hn : H.Nodup) (gn : G.Nodup) (gU : ∀ x ∈ G, U x) (gm : ∀ x ∈ G, ∀ h ∈ H, op x h ∈ G) : H.length ∣ G.length := by
  refine lag (co := fun x => H.map (op x)) (U := U) (n := H.length) (fun x _ => List.length_map _) (fun x ux => ?_) (fun x ux => List.mem_map.mpr ⟨e, he, ur x ux⟩) (fun x y ux my z => ?_) G.length G (Nat.le_refl _) gn gU fun x mx y my => ?_
  · refine List.nodup_iff_pairwise_ne.mpr (List.pairwise_map.mpr ?_)
    exact List.Pairwise.imp_of_mem (fun {a b} ma mb ne z => ne (ca x a b ux (hU a ma) (hU b mb) z)) (List.nodup_iff_pairwise_ne.mp hn)
  · obtain ⟨m, mm, rfl⟩ := List.mem_map.mp my
    have um := hU m mm
    constructor
    · intro q
      obtain ⟨h, mh, rfl⟩ := List.mem_map.mp q
      exact List.mem_map.mpr ⟨op m h, hm m mm h mh, (as x m h ux um (hU h mh)).symm⟩
    · intro q
      obtain ⟨h, mh, rfl⟩ := List.mem_map.mp q
      obtain ⟨i1, i2⟩ := hiv m mm
      refine List.mem_map.mpr ⟨op (iv m) h, hm _ i1 h mh, ?_⟩
      rw [as x m _ ux um (hU _ (hm _ i1 h mh)), ← as m (iv m) h um (hU _ i1) (hU h mh), i2, ul h (hU h mh)]
  · obtain ⟨h, mh, rfl⟩ := List.mem_map.mp my
    exact gm x mx h mh
theorem mvd_injO {α : Type} {d : α} {x : List α} (nd : x.Nodup) : ∀ {o o' : List Nat}, (∀ k ∈ o, k < x.length) → (∀ k ∈ o', k < x.length) → mvd d x o = mvd d x o' → o = o'
  | [], [], _, _, _ => rfl
  | [], _ :: _, _, _, e => by cases e
  | _ :: _, [], _, _, e => by cases e
  | a :: o, b :: o', h, h', e => by
    obtain ⟨e1, e2⟩ := List.cons.inj e
    have e1 : x.getD a d = x.getD b d := e1
    have ha := getD_some (d := d) (h a (List.mem_cons_self ..))
    have hb := getD_some (d := d) (h' b (List.mem_cons_self ..))
    rw [e1] at ha
    rw [nodup_get nd ha hb, mvd_injO nd (fun k m => h k (List.mem_cons_of_mem _ m)) (fun k m => h' k (List.mem_cons_of_mem _ m)) e2]
theorem mvd_left {o : List Nat} {n : Nat} (h : ∀ k ∈ o, k < n) : mvd 0 (List.range n) o = o := by
  unfold mvd
  refine (List.map_congr_left fun k m => ?_).trans (List.map_id o)
  rw [List.getD_eq_getElem?_getD, List.getElem?_range (h k m)]
  rfl
theorem mvd_still {α : Type} {d : α} {x : List α} : mvd d x (List.range x.length) = x := map_getD_range d x
theorem inv_right {o : List Nat} {n : Nat} (hl : o.length = n) (lt : ∀ k ∈ o, k < n) (nd : o.Nodup) : mvd 0 o (invO o) = List.range n := by
  have := mvd_inv (d := 0) (row := List.range n) (o := o) (by rw [List.length_range, hl]) (fun k m => by rw [hl]; exact lt k m) nd
  rwa [mvd_left lt] at this
/-- how many orders keep all, by counting what came before -/
def allF {α : Type} [DecidableEq α] (pre : List α) : List α → Nat → Nat
  | [], c => c
  | x :: r, c => allF (pre ++ [x]) r (c * (1 + pre.count x))
theorem allF_map {α β : Type} [DecidableEq α] [DecidableEq β] {f : α → β} : ∀ (r pre : List α) (c : Nat), (∀ x ∈ pre ++ r, ∀ y ∈ pre ++ r, f x = f y → x = y) → allF (pre.map f) (r.map f) c = allF pre r c
  | [], _, _, _ => rfl
  | x :: r, pre, c, h => by
    have e : (pre.map f).count (f x) = pre.count x := by
      have h2 : ∀ y ∈ pre, f y = f x → y = x := fun y m => h y (List.mem_append_left _ m) x (List.mem_append_right _ (List.mem_cons_self ..))
      clear h
      induction pre with
      | nil => rfl
      | cons y pre ih =>
        rw [List.map_cons, List.count_cons, List.count_cons, ih fun z m => h2 z (List.mem_cons_of_mem _ m)]
        by_cases q : y = x
        · rw [q]; simp
        · have : f y ≠ f x := fun z => q (h2 y (List.mem_cons_self ..) z)
          simp [q, this]
    rw [List.map_cons, allF, allF, e]
    have := allF_map r (pre ++ [x]) (c * (1 + pre.count x)) (by rw [List.append_assoc]; exact h)
    rw [List.map_append] at this
    exact this
def pmN (n : Nat) : List (List Nat) := (seqs n n).filter fun o => decide o.Nodup
theorem all_chk : ∀ n : Fin 5, ∀ p ∈ seqs n.val n.val, ((pmN n.val).filter fun o => decide (mvd 0 p o = p)).length = allF [] p 1 := by decide +kernel
theorem pm_chk : ∀ n : Fin 5, (pmN n.val).Nodup ∧ (pmN n.val).length ≤ 24 := by decide +kernel
theorem mem_pm {n : Nat} {o : List Nat} (hl : o.length = n) (lt : ∀ k ∈ o, k < n) (nd : o.Nodup) : o ∈ pmN n := by
  refine List.mem_filter.mpr ⟨?_, decide_eq_true nd⟩
  have := mem_seqs (n := n) lt
  rwa [hl] at this
end L2.Z.D
set_option Elab.async false
set_option linter.all false
set_option maxRecDepth 100000
set_option maxHeartbeats 1000000
namespace L2.Z.D
open PySem PySem.Spec PyProof.Rows
def ddO : List (List Nat) → List (List Nat)
  | [] => []
  | x :: l => if x ∈ ddO l then ddO l else x :: ddO l
theorem ddO_mem {x : List Nat} : ∀ {l : List (List Nat)}, x ∈ ddO l ↔ x ∈ l
  | [] => Iff.rfl
  | y :: l => by
    rw [ddO]
    split
    · rename_i c
      refine ⟨fun m => List.mem_cons_of_mem _ (ddO_mem.mp m), fun m => ?_⟩
      rcases List.mem_cons.mp m with e | m
      · rw [e]; exact c
      · exact ddO_mem.mpr m
    · rw [List.mem_cons, List.mem_cons, ddO_mem]
theorem ddO_nd : ∀ l : List (List Nat), (ddO l).Nodup
  | [] => List.nodup_nil
  | y :: l => by
    rw [ddO]
    split
    · exact ddO_nd l
    · rename_i c
      exact List.nodup_cons.mpr ⟨c, ddO_nd l⟩
theorem map_injOn {α β : Type} {f : α → β} : ∀ {l m : List α}, (∀ x ∈ l, ∀ y ∈ m, f x = f y → x = y) → l.map f = m.map f → l = m
  | [], [], _, _ => rfl
  | [], _ :: _, _, e => by cases e
  | _ :: _, [], _, e => by cases e
  | a :: l, b :: m, h, e => by
    obtain ⟨e1, e2⟩ := List.cons.inj e
    rw [h a (List.mem_cons_self ..) b (List.mem_cons_self ..) e1, map_injOn (fun x mx y my => h x (List.mem_cons_of_mem _ mx) y (List.mem_cons_of_mem _ my)) e2]
abbrev d0 : Str × Str := ("", "")
theorem keep_iff {held : List (Str × Str)} {o : List Nat} (hl : o.length = held.length) (lt : ∀ k ∈ o, k < held.length) : mvd d0 held o = held ↔ ∀ (i k : Nat), o[i]? = some k → held[k]? = held[i]? := by
  constructor
  · intro e i k q
    have h1 := mvd_get (d := d0) (row := held) q
    rw [e] at h1
    rw [h1]
    exact getD_some (lt k (List.mem_of_getElem? q))
  · intro h
    refine List.ext_getElem? fun i => ?_
    cases q : o[i]? with
    | none =>
      have l1 : held.length ≤ i := by
        have := List.getElem?_eq_none_iff.mp q
        omega
      rw [List.getElem?_eq_none_iff.mpr l1]
      unfold mvd
      rw [List.getElem?_map, q]
      rfl
    | some k =>
      rw [mvd_get q, ← h i k q]
      exact (getD_some (lt k (List.mem_of_getElem? q))).symm
theorem ord_keep {held : List (Str × Str)} {o : List Nat} (h : OrdOk held o) : mvd d0 held o = held := (keep_iff h.len h.lt).mpr h.at_
def ords (held : List (Str × Str)) : List (List Nat) := (pmN held.length).filter fun o => decide (mvd d0 held o = held)
theorem pm_iff {n : Nat} {o : List Nat} (h : o ∈ pmN n) : o.length = n ∧ (∀ k ∈ o, k < n) ∧ o.Nodup := by
  obtain ⟨h1, h2⟩ := List.mem_filter.mp h
  have key : ∀ (k : Nat) (l : List Nat), l ∈ seqs n k → l.length = k ∧ ∀ x ∈ l, x < n := by
    intro k
    induction k with
    | zero =>
      intro l m
      rw [seqs, List.mem_singleton] at m
      rw [m]
      exact ⟨rfl, fun x q => nomatch q⟩
    | succ k ih =>
      intro l m
      rw [seqs, List.mem_flatMap] at m
      obtain ⟨l', m1, m2⟩ := m
      obtain ⟨x, m3, rfl⟩ := List.mem_map.mp m2
      obtain ⟨e1, e2⟩ := ih l' m1
      refine ⟨by rw [List.length_cons, e1], fun y my => ?_⟩
      rcases List.mem_cons.mp my with e | my
      · rw [e]; exact List.mem_range.mp m3
      · exact e2 y my
  obtain ⟨e1, e2⟩ := key n o h1
  exact ⟨e1, e2, of_decide_eq_true h2⟩
theorem mem_ords {held : List (Str × Str)} {o : List Nat} : o ∈ ords held ↔ OrdOk held o := by
  unfold ords
  rw [List.mem_filter]
  constructor
  · rintro ⟨h1, h2⟩
    obtain ⟨a, b, c⟩ := pm_iff h1
    exact ⟨a, b, c, (keep_iff a b).mp (of_decide_eq_true h2)⟩
  · intro h
    exact ⟨mem_pm h.len h.lt h.nd, decide_eq_true (ord_keep h)⟩
theorem ords_len {held : List (Str × Str)} (hf : held.length ≤ 4) : (ords held).length = allF [] held 1 := by
  obtain ⟨f, ef⟩ : ∃ f : Str × Str → Nat, f = fun x => held.idxOf x := ⟨_, rfl⟩
  have inj : ∀ x ∈ held, ∀ y ∈ held, f x = f y → x = y := fun x mx y my e => by
    rw [ef] at e
    have h1 : held[held.idxOf x]? = some x := by
      rw [List.getElem?_eq_getElem (List.idxOf_lt_length_of_mem mx)]
      simp
    have h2 : held[held.idxOf y]? = some y := by
      rw [List.getElem?_eq_getElem (List.idxOf_lt_length_of_mem my)]
      simp
    have e : held.idxOf x = held.idxOf y := e
    rw [e, h2] at h1
    exact (Option.some.inj h1).symm
  have lt : ∀ x ∈ held.map f, x < held.length := fun x m => by
    obtain ⟨y, my, rfl⟩ := List.mem_map.mp m
    rw [ef]
    exact List.idxOf_lt_length_of_mem my
  have mp : held.map f ∈ seqs held.length held.length := by
    have := mem_seqs lt
    rwa [List.length_map] at this
  have e := all_chk ⟨held.length, by omega⟩ (held.map f) mp
  have e : ((pmN held.length).filter fun o => decide (mvd 0 (held.map f) o = held.map f)).length = allF [] (held.map f) 1 := e
  have e2 : allF [] (held.map f) 1 = allF [] held 1 := allF_map held [] 1 inj
  rw [← e2, ← e]
  unfold ords
  congr 1
  refine List.filter_congr fun o mo => ?_
  obtain ⟨a, b, c⟩ := pm_iff mo
  have m2 : mvd 0 (held.map f) o = (mvd d0 held o).map f := by
    unfold mvd
    rw [List.map_map]
    refine List.map_congr_left fun k mk => ?_
    have := getD_some (d := d0) (b k mk)
    show (held.map f).getD k 0 = f (held.getD k d0)
    rw [List.getD_eq_getElem?_getD, List.getElem?_map, this]
    rfl
  rw [m2]
  refine decide_eq_decide.mpr ⟨fun q => by rw [q], fun q => map_injOn (fun x mx y my => inj x ?_ y my) q⟩
  unfold mvd at mx
  obtain ⟨k, mk, rfl⟩ := List.mem_map.mp mx
  exact List.mem_of_getElem? (getD_some (d := d0) (b k mk))
section
variable {sp : List Str} {b : Bx}
theorem gp_still (bo : BxOk sp b) : stillO b.slots.length ∈ grp b := (grp_iff bo _).mpr .still
theorem gp_mul (bo : BxOk sp b) {x y : El} (hx : x ∈ grp b) (hy : y ∈ grp b) : reach x y ∈ grp b := (grp_iff bo _).mpr (GenE.mul bo.mv ((grp_iff bo x).mp hx) ((grp_iff bo y).mp hy))
theorem gp_ok (bo : BxOk sp b) {x : El} (hx : x ∈ grp b) : OrdOk b.slots x.1 ∧ SgOk x.2 := (grp_ok bo).ok x hx
theorem gp_sub {c : Bx} (bo : BxOk sp b) (bc : BxOk sp c) (hs : c.slots = b.slots) (h : ∀ m ∈ c.moves, m ∈ grp b) : ∀ x ∈ grp c, x ∈ grp b := fun x mx => by
  have g := (grp_iff bc x).mp mx
  rw [hs] at g
  induction g with
  | still => exact gp_still bo
  | step g hm ih => exact gp_mul bo (ih ((grp_iff bc _).mpr (by rw [hs]; exact g))) (h _ hm)
theorem gp_move (bo : BxOk sp b) {m : El} (h : m ∈ b.moves) : m ∈ grp b := by
  have := (grp_iff bo _).mpr (GenE.step .still h)
  have e : reach (stillO b.slots.length) m = m := by
    obtain ⟨o, s⟩ := m
    simp only [reach, stillO, Int.one_mul, Prod.mk.injEq, and_true]
    exact mvd_left (bo.mv _ h).1.lt
  rwa [e] at this
abbrev invE (x : El) : El := (invO x.1, x.2)
theorem gp_inv (bo : BxOk sp b) {x : El} (h : x ∈ grp b) : invE x ∈ grp b := grp_inv bo h
theorem reach_inv (bo : BxOk sp b) {x : El} (h : x ∈ grp b) : reach x (invE x) = stillO b.slots.length := by
  obtain ⟨o1, s1⟩ := gp_ok bo h
  unfold reach stillO
  rw [inv_right o1.len o1.lt o1.nd, sgsq s1]
theorem gp_lag {G H : List El} (bo : BxOk sp b) (hH : ∀ x ∈ H, x ∈ grp b) (hs : stillO b.slots.length ∈ H) (hi : ∀ x ∈ H, invE x ∈ H) (hm : ∀ x ∈ H, ∀ y ∈ H, reach x y ∈ H) (hn : H.Nodup) (gn : G.Nodup) (hG : ∀ x ∈ G, x ∈ grp b) (gm : ∀ x ∈ G, ∀ h ∈ H, reach x h ∈ G) : H.length ∣ G.length := by
  refine lagG (op := reach) (U := fun x => OrdOk b.slots x.1 ∧ SgOk x.2) (e := stillO b.slots.length) (iv := invE) (fun x m => gp_ok bo (hH x m)) (fun x y hx hy => ⟨ord_mvd hx.1 hy.1, sg_mul hx.2 hy.2⟩) (fun x y z hx hy hz => reach_assoc fun k mk => by rw [hy.1.len]; exact hz.1.lt k mk)
    (fun x y z hx hy hz e => ?_) (fun x hx => reach_still hx.1.len) (fun x hx => ?_) hs (fun x m => ⟨hi x m, reach_inv bo (hH x m)⟩) hm hn gn (fun x m => gp_ok bo (hG x m)) gm
  · obtain ⟨e1, e2⟩ := Prod.ext_iff.mp e
    refine Prod.ext (mvd_injO hx.1.nd (fun k m => by rw [hx.1.len]; exact hy.1.lt k m) (fun k m => by rw [hx.1.len]; exact hz.1.lt k m) e1) ?_
    have e2 : x.2 * y.2 = x.2 * z.2 := e2
    rcases hx.2 with q | q
    · rw [q] at e2; omega
    · rw [q] at e2; omega
  · obtain ⟨o, s⟩ := x
    simp only [reach, stillO, Int.one_mul, Prod.mk.injEq, and_true]
    exact mvd_left hx.1.lt
def orO (b : Bx) : List (List Nat) := ddO ((grp b).map (·.1))
theorem mem_or {o : List Nat} : o ∈ orO b ↔ ∃ s, (o, s) ∈ grp b := by
  unfold orO
  rw [ddO_mem, List.mem_map]
  exact ⟨fun ⟨x, m, e⟩ => ⟨x.2, by rw [← e]; exact m⟩, fun ⟨s, m⟩ => ⟨(o, s), m, rfl⟩⟩
theorem or_dvd (bo : BxOk sp b) : (orO b).length ∣ allF [] b.slots 1 := by
  rw [← ords_len bo.few]
  refine lagG (op := mvd 0) (U := OrdOk b.slots) (e := List.range b.slots.length) (iv := invO) (fun x m => ?_) (fun x y => ord_mvd) (fun x y z hx hy hz => mvd_assoc fun k mk => by rw [hy.len]; exact hz.lt k mk)
    (fun x y z hx hy hz e => mvd_injO hx.nd (fun k m => by rw [hx.len]; exact hy.lt k m) (fun k m => by rw [hx.len]; exact hz.lt k m) e) (fun x hx => by rw [← hx.len]; exact mvd_still) (fun x hx => mvd_left hx.lt) (mem_or.mpr ⟨1, gp_still bo⟩)
    (fun x m => ?_) (fun x mx y my => ?_) (ddO_nd _) ((pm_chk ⟨b.slots.length, by have := bo.few; omega⟩).1.sublist List.filter_sublist) (fun x m => mem_ords.mp m) (fun x mx h mh => ?_)
  · obtain ⟨s, m⟩ := mem_or.mp m
    exact (gp_ok bo m).1
  · obtain ⟨s, m⟩ := mem_or.mp m
    have o1 := (gp_ok bo m).1
    exact ⟨mem_or.mpr ⟨s, gp_inv bo m⟩, inv_right o1.len o1.lt o1.nd⟩
  · obtain ⟨s, m⟩ := mem_or.mp mx
    obtain ⟨t, n⟩ := mem_or.mp my
    exact mem_or.mpr ⟨s * t, gp_mul bo m n⟩
  · obtain ⟨t, n⟩ := mem_or.mp mh
    exact mem_ords.mpr (ord_mvd (mem_ords.mp mx) (gp_ok bo n).1)
theorem or_few (bo : BxOk sp b) : 1 ≤ (orO b).length ∧ (orO b).length ≤ 24 := by
  refine ⟨List.length_pos_of_mem (mem_or.mpr ⟨1, gp_still bo⟩), ?_⟩
  have c := pm_chk ⟨b.slots.length, by have := bo.few; omega⟩
  refine Nat.le_trans (nodup_le (ddO_nd _) fun x m => ?_) c.2
  obtain ⟨s, m⟩ := mem_or.mp m
  have o1 := (gp_ok bo m).1
  exact mem_pm o1.len o1.lt o1.nd
theorem gp_len (bo : BxOk sp b) : (grp b).length = if (List.range b.slots.length, (-1 : Int)) ∈ grp b then 2 * (orO b).length else (orO b).length := by
  have nd := (grp_ok bo).nd
  split
  · rename_i c
    have flip : ∀ {o : List Nat} {s : Int}, (o, s) ∈ grp b → (o, -s) ∈ grp b := fun {o s} m => by
      have := gp_mul bo m c
      have e : reach (o, s) (List.range b.slots.length, -1) = (o, -s) := by
        unfold reach
        rw [← (gp_ok bo m).1.len]
        refine Prod.ext mvd_still ?_
        show s * -1 = -s
        omega
      rwa [e] at this
    have key : ∀ t : Int, SgOk t → ((grp b).filter fun x => decide (x.2 = t)).length = (orO b).length := fun t ht => by
      rw [← List.length_map (f := (·.1))]
      refine List.Perm.length_eq ((List.perm_ext_iff_of_nodup ?_ (ddO_nd _)).mpr fun o => ⟨fun m => ?_, fun m => ?_⟩)
      · refine List.nodup_iff_pairwise_ne.mpr (List.pairwise_map.mpr ?_)
        refine List.Pairwise.imp_of_mem (fun {x y} mx my ne e => ne (Prod.ext e ?_)) (List.nodup_iff_pairwise_ne.mp (nd.sublist List.filter_sublist))
        rw [of_decide_eq_true (List.mem_filter.mp mx).2, of_decide_eq_true (List.mem_filter.mp my).2]
      · obtain ⟨x, mx, rfl⟩ := List.mem_map.mp m
        exact mem_or.mpr ⟨x.2, (List.mem_filter.mp mx).1⟩
      · obtain ⟨s, ms⟩ := mem_or.mp m
        have : (o, t) ∈ grp b := by
          rcases (gp_ok bo ms).2 with q | q <;> rcases ht with r | r
          · rw [r]; have q : s = 1 := q; rw [← q]; exact ms
          · rw [r]; have q : s = 1 := q; have := flip ms; rwa [q] at this
          · rw [r]; have q : s = -1 := q; have := flip ms; rwa [q] at this
          · rw [r]; have q : s = -1 := q; rw [← q]; exact ms
        exact List.mem_map.mpr ⟨(o, t), List.mem_filter.mpr ⟨this, decide_eq_true rfl⟩, rfl⟩
    have p := (List.filter_append_perm (fun x : El => decide (x.2 = 1)) (grp b)).length_eq
    rw [List.length_append, key 1 (.inl rfl)] at p
    have e : (grp b).filter (fun x : El => !decide (x.2 = 1)) = (grp b).filter fun x => decide (x.2 = -1) := by
      refine List.filter_congr fun x m => ?_
      rcases (gp_ok bo m).2 with q | q <;> rw [q] <;> decide
    rw [e, key (-1) (.inr rfl)] at p
    omega
  · rename_i c
    rw [← List.length_map (f := (·.1))]
    refine List.Perm.length_eq ((List.perm_ext_iff_of_nodup ?_ (ddO_nd _)).mpr fun o => ddO_mem.symm)
    refine List.nodup_iff_pairwise_ne.mpr (List.pairwise_map.mpr ?_)
    refine List.Pairwise.imp_of_mem (fun {x y} mx my ne e => ne (Prod.ext e ?_)) (List.nodup_iff_pairwise_ne.mp nd)
    have r := gp_mul bo mx (gp_inv bo my)
    have o1 := (gp_ok bo my).1
    have e2 : reach x (invE y) = (List.range b.slots.length, x.2 * y.2) := by
      unfold reach
      rw [e]
      exact Prod.ext (inv_right o1.len o1.lt o1.nd) rfl
    rw [e2] at r
    rcases (gp_ok bo mx).2 with p | p <;> rcases (gp_ok bo my).2 with q | q
    · rw [p, q]
    · rw [p, q] at r; exact absurd r c
    · rw [p, q] at r; exact absurd r c
    · rw [p, q]
end
end L2.Z.D
set_option Elab.async false
set_option linter.all false
set_option maxRecDepth 100000
set_option maxHeartbeats 1000000
namespace L2.Z.D
open PySem PySem.Spec PyProof.Rows
def thL : List T := [.non, .str ("a" : Str), .int 7, .tup [.str ("a" : Str), .str ("b" : Str)], .str ("" : Str), .tup [], .int (10 ^ 30), .int (-1), .tup [.str ("up" : Str)], .lst [.int 0], .dct [] [], .bl true]
def shC (t : T) : List Nat := (toD t).shown.cps.toList
def thC : List (List Nat) := [[78,111,110,101], [39,97,39], [55], [40,39,97,39,44,32,39,98,39,41], [39,39], [40,41], [49,48,48,48,48,48,48,48,48,48,48,48,48,48,48,48,48,48,48,48,48,48,48,48,48,48,48,48,48,48,48], [45,49], [40,39,117,112,39,44,41], [91,48,93], [123,125], [84,114,117,101]]
theorem th_c : thL.map shC = thC := by decide +kernel
theorem th_nd : thC.Nodup := by decide +kernel
theorem th_pf : ∀ x ∈ thC, ∀ y ∈ thC, x.isPrefixOf y = true → x = y := by decide +kernel
theorem th_lens : ∀ x ∈ thC, x.length ≤ 31 := by decide +kernel
theorem inj_nd {α β : Type} {f : α → β} : ∀ {l : List α}, (l.map f).Nodup → ∀ x ∈ l, ∀ y ∈ l, f x = f y → x = y
  | [], _, x, m, _, _, _ => nomatch m
  | a :: l, h, x, mx, y, my, e => by
    rw [List.map_cons] at h
    obtain ⟨h1, h2⟩ := List.nodup_cons.mp h
    rcases List.mem_cons.mp mx with ex | mx <;> rcases List.mem_cons.mp my with ey | my
    · rw [ex, ey]
    · exact absurd (List.mem_map.mpr ⟨y, my, by rw [← e, ex]⟩) h1
    · exact absurd (List.mem_map.mpr ⟨x, mx, by rw [e, ey]⟩) h1
    · exact inj_nd h2 x mx y my e
theorem th_inj {x y : T} (hx : x ∈ thL) (hy : y ∈ thL) (e : shC x = shC y) : x = y := inj_nd (by rw [th_c]; exact th_nd) x hx y hy e
theorem th_mem {x : T} (hx : x ∈ thL) : shC x ∈ thC := by
  rw [← th_c]
  exact List.mem_map_of_mem hx
theorem str_app (a b : Str) : (a ++ b).cps.toList = a.cps.toList ++ b.cps.toList := Array.toList_append
/-- texts side by side, ", " between -/
def jnC : List (List Nat) → List Nat
  | [] => []
  | [x] => x
  | x :: y :: r => x ++ ([44, 32] ++ jnC (y :: r))
theorem join_c : ∀ l : List Str, (Str.join ", " l).cps.toList = jnC (l.map fun z => z.cps.toList)
  | [] => rfl
  | [x] => rfl
  | x :: y :: r => by
    rw [join_cons_cons, str_app, str_app, join_c (y :: r)]
    show (x.cps.toList ++ _) ++ _ = x.cps.toList ++ ([44, 32] ++ _)
    rw [List.append_assoc]
    rfl
theorem jn_inj : ∀ (l m : List (List Nat)) (t u : List Nat), l.length = m.length → (∀ x ∈ l, x ∈ thC) → (∀ x ∈ m, x ∈ thC) → jnC l ++ t = jnC m ++ u → l = m
  | [], [], _, _, _, _, _, _ => rfl
  | [], _ :: _, _, _, h, _, _, _ => by cases h
  | _ :: _, [], _, _, h, _, _, _ => by cases h
  | a :: l, b :: m, t, u, hl, ha, hb, e => by
    have key : ∀ (x y : List Nat), x ∈ thC → y ∈ thC → ∀ p q : List Nat, x ++ p = y ++ q → x = y ∧ p = q := fun x y mx my p q e => by
      have : x = y := by
        rcases Nat.le_total x.length y.length with c | c
        · refine th_pf x mx y my (List.isPrefixOf_iff_prefix.mpr ?_)
          exact List.prefix_of_prefix_length_le (List.prefix_append x p) (e ▸ List.prefix_append y q) c
        · refine (th_pf y my x mx (List.isPrefixOf_iff_prefix.mpr ?_)).symm
          exact List.prefix_of_prefix_length_le (List.prefix_append y q) (e ▸ List.prefix_append x p) c
      subst this
      exact ⟨rfl, List.append_cancel_left e⟩
    have ma := ha a (List.mem_cons_self ..)
    have mb := hb b (List.mem_cons_self ..)
    cases l with
    | nil =>
      cases m with
      | cons _ _ => cases hl
      | nil => rw [(key a b ma mb t u e).1]
    | cons a2 l =>
      cases m with
      | nil => cases hl
      | cons b2 m =>
        have e : (a ++ ([44, 32] ++ jnC (a2 :: l))) ++ t = (b ++ ([44, 32] ++ jnC (b2 :: m))) ++ u := e
        simp only [List.append_assoc] at e
        obtain ⟨e1, e2⟩ := key a b ma mb _ _ e
        have e3 := List.append_cancel_left e2
        rw [e1, jn_inj (a2 :: l) (b2 :: m) t u (by simpa using hl) (fun x q => ha x (List.mem_cons_of_mem _ q)) (fun x q => hb x (List.mem_cons_of_mem _ q)) e3]
theorem shAll_map : ∀ l : List PyData, PyData.shownAll l = l.map PyData.shown
  | [] => rfl
  | x :: l => by rw [PyData.shownAll, shAll_map l]; rfl
theorem row_c (l : List T) : ∃ t : List Nat, shC (.tup l) = 40 :: (jnC (l.map shC) ++ t) := by
  unfold shC
  rw [toD, PyData.shown, toDs_map, shAll_map, List.map_map]
  unfold tupleText
  generalize Str.ofString (if ((l.map (PyData.shown ∘ toD)).length == 1) = true then ",)" else ")") = tl
  refine ⟨tl.cps.toList, ?_⟩
  rw [str_app, str_app, join_c, List.map_map]
  show ([40] ++ _) ++ _ = 40 :: (_ ++ _)
  rw [List.append_assoc]
  rfl
theorem row_inj {l m : List T} (hl : l.length = m.length) (h1 : ∀ x ∈ l, x ∈ thL) (h2 : ∀ x ∈ m, x ∈ thL) (e : (toD (.tup l)).shown = (toD (.tup m)).shown) : l = m := by
  obtain ⟨t, et⟩ := row_c l
  obtain ⟨u, eu⟩ := row_c m
  have e2 : shC (.tup l) = shC (.tup m) := by
    unfold shC
    rw [e]
  rw [et, eu] at e2
  have e3 := jn_inj (l.map shC) (m.map shC) t u (by rw [List.length_map, List.length_map, hl]) (fun x q => by
    obtain ⟨y, my, rfl⟩ := List.mem_map.mp q
    exact th_mem (h1 y my)) (fun x q => by
    obtain ⟨y, my, rfl⟩ := List.mem_map.mp q
    exact th_mem (h2 y my)) (List.cons.inj e2).2
  exact map_injOn (fun x mx y my => th_inj (h1 x mx) (h2 y my)) e3
end L2.Z.D
set_option Elab.async false
set_option linter.all false
set_option maxRecDepth 100000
set_option maxHeartbeats 1000000
set_option exponentiation.threshold 500
namespace L2.Z.D
open PySem PySem.Spec PyProof.Rows
theorem posO_idx : ∀ {o : List Nat} {k : Nat}, k ∈ o → (intsOf (o.map fun (k : Nat) => T.int (k : Int))).bind (posI (k : Int)) = some (o.idxOf k) := by
  intro o k h
  have e : intsOf (o.map fun (k : Nat) => T.int (k : Int)) = some (o.map fun (k : Nat) => (k : Int)) := by
    induction o with
    | nil => rfl
    | cons a o ih =>
      rw [List.map_cons, intsOf]
      cases o with
      | nil => rfl
      | cons b r =>
        have : intsOf ((b :: r).map fun (k : Nat) => T.int (k : Int)) = some ((b :: r).map fun (k : Nat) => (k : Int)) := by
          clear ih h
          generalize b :: r = l
          induction l with
          | nil => rfl
          | cons c l ih => rw [List.map_cons, intsOf, ih]; rfl
        rw [this]; rfl
  rw [e, Option.bind_some]
  clear e
  induction o with
  | nil => cases h
  | cons a o ih =>
    rw [List.map_cons, posI, List.idxOf_cons]
    by_cases q : a = k
    · subst q; simp
    · rcases List.mem_cons.mp h with e | h
      · exact absurd e.symm q
      · rw [if_neg (by omega), ih h]
        have : (a == k) = false := by simp [q]
        rw [this]; rfl
theorem c_back {held : List (Str × Str)} {o : List Nat} (h : OrdOk held o) (hf : held.length ≤ 4) (s : S) : callF F__law_back [eOrd o] s = .ok (.val (eOrd (invO o))) s := by
  have hl := h.len
  have ho : ∀ k, k < o.length → k ∈ o := fun k hk => (ord_perm h.len h.lt h.nd).mem_iff.mpr (List.mem_range.mpr (by omega))
  refine callF_pure (np := 1) (nn := 2) (f := v__law_back) rfl (fun st => ?_) s
  have rk : rngOk (o.length : Int) := ⟨by omega, by omega⟩
  have r0 : rngT 0 o.length = (List.range o.length).map nI := rng_nI o.length
  have e : aLc (iRng1 (aCons (fCl clLen (aCons (fVar 0) aNil)) aNil)) (pName 1) tTrue (fIdx (fVar 0) (fVar 1)) [1] ⟨[.val (eOrd o), .un], [], st⟩ = .ok ((List.range o.length).map fun k => T.int ((o.idxOf k : Nat) : Int)) ⟨[.val (eOrd o), .un], [], st⟩ :=
    mapS (l := List.range o.length) (en := nI) _ (by simp [eOrd, rk, r0]) fun k m => ⟨_, rfl, by
      have := posO_idx (ho k (List.mem_range.mp m))
      simp [wipeE, eOrd, nI, this], rfl, rfl, rfl⟩
  simp only [eOrd] at e
  simp [v__law_back, st0, e, eOrd, invO, Function.comp_def]
theorem c_after {α : Type} (en : α → T) (d : α) {row : List α} {o : List Nat} (h : ∀ k ∈ o, k < row.length) (s : S) : callF F__law_after [.tup (row.map en), eOrd o] s = .ok (.val (.tup ((mvd d row o).map en))) s := by
  refine callF_pure rfl (fun st => ?_) s
  have e : aLc (iTp (fVar 1)) (pName 2) tTrue (fBin opIx (fVar 0) (fVar 2)) [2] ⟨[.val (.tup (row.map en)), .val (eOrd o), .un], [], st⟩ = .ok (o.map fun k => en (row.getD k d)) ⟨[.val (.tup (row.map en)), .val (eOrd o), .un], [], st⟩ :=
    mapS (l := o) (en := fun (k : Nat) => T.int (k : Int)) _ (by simp [eOrd]) fun k m => ⟨_, rfl, by simp [wipeE, mv_ix (d := d) (h k m)], rfl, rfl, rfl⟩
  simp only [eOrd] at e ⊢
  simp [v__law_after, st0, e, mvd]
theorem c_slots5 {g : Gr} (hg : GrOk g) {b : Bx} (mb : b ∈ g.boxes) (s : S) : callF F_slots [eGr g, .str b.name] s = .ok (.val (.tup (b.slots.map eSl))) s := by
  refine callF_pure (np := 2) (nn := 2) (f := v_slots) rfl (fun st => ?_) s
  let E : S := ⟨[.val (eGr g), .val (.str b.name)], [], st⟩
  exact ⟨E.env, [], seq_ok (s1 := E) (sExpr_ok (r_call (fa := aCons (fVar 0) aNil) (ts := [eGr g]) (s1 := E) rfl (c_need_gear hg _))) (r_retC (fa := aCons (fVar 0) (aCons (fVar 1) aNil)) (ts := [eGr g, .str b.name]) (s1 := E) rfl (c_own_slots (boxOf_of hg mb) _))⟩
theorem c_group5 {g : Gr} (hg : GrOk g) {b : Bx} (mb : b ∈ g.boxes) (s : S) : callF F_group [eGr g, .str b.name] s = .ok (.val (.tup (sortT ((grp b).map eMv)))) s := by
  refine callF_pure (np := 2) (nn := 2) (f := v_group) rfl (fun st => ?_) s
  let E : S := ⟨[.val (eGr g), .val (.str b.name)], [], st⟩
  exact ⟨_, _, seq_ok (s1 := E) (sExpr_ok (r_call (r_one (f := fVar 0) (a := eGr g) (s1 := E) rfl) (c_need_gear hg E))) (r_retC (r_two (f := fVar 0) (h := fVar 1) (a := eGr g) (b := .str b.name) (s1 := E) (s2 := E) rfl rfl) (c_own_group (boxOf_of hg mb) hg E))⟩
theorem cnt_sl {ts : List (Str × Str)} {a : Str × Str} {f h : Ev} {s s1 s2 : S} (hf : f s = .ok (.lst (ts.map eSl)) s1) (hh : h s1 = .ok (eSl a) s2) : fCntL f h s = .ok (.int ((ts.count a : Nat) : Int)) s2 := by
  unfold fCntL
  rw [hf, Rbind_ok, hh, Rbind_ok]
  have c0 : (T.lst (ts.map eSl)).cl = true := by rw [cl_lst]; exact cls_map fun _ _ => cl_eSl _
  have c1 := cl_ok c0
  have c2 := cl_ok (cl_eSl a)
  dsimp only
  rw [if_pos ⟨(cls_ok (cls_map fun _ _ => cl_eSl _)).2, c2.2, c1.1, c2.1, Nat.le_trans (Nat.min_le_right _ _) (by
    have := dep_eSl a
    show (eSl a).dep ≤ 100
    omega)⟩]
  have : ∀ l : List (Str × Str), (l.map eSl).countP (fun y => PyData.eqv (toD y) (toD (eSl a))) = l.count a := fun l => by
    induction l with
    | nil => rfl
    | cons x l ih =>
      have q : PyData.eqv (toD (eSl x)) (toD (eSl a)) = (x == a) := by
        show eqb (eSl x) (eSl a) = _
        by_cases h : x = a
        · subst h
          rw [eqb_refl (cl_eSl x)]
          simp
        · rw [eqb_ne (cl_eSl x) (cl_eSl a) fun z => h (by
            simp [eSl] at z
            exact Prod.ext z.1 z.2)]
          simp [h]
      rw [List.map_cons, List.countP_cons, List.count_cons, ih, q]
  rw [this]
theorem addT5 {a b : List T} (h : a.length + b.length ≤ 16777216) : opAdd (.tup a) (.tup b) = some (.tup (a ++ b)) := if_pos h
def cntD {α : Type} [DecidableEq α] (x : α) (l : List α) : Nat := l.count x
theorem beqS : (instBEqProd : BEq (Str × Str)) = instBEqOfDecidableEq := by
  have key : ∀ (b1 b2 : BEq (Str × Str)), (∀ x y, b1.beq x y = b2.beq x y) → b1 = b2 := fun ⟨_⟩ ⟨_⟩ h => by
    congr
    funext x y
    exact h x y
  exact key _ _ fun x y => Bool.eq_iff_iff.mpr (Iff.trans (@beq_iff_eq _ instBEqProd _ x y) (@beq_iff_eq _ instBEqOfDecidableEq _ x y).symm)
theorem cntD_eq (x : Str × Str) (l : List (Str × Str)) : l.count x = cntD x l := by
  unfold cntD
  rw [beqS]
abbrev alB : Sv := (sSet 1 (fBin opMulA (fVar 1) (fBin opAdd (fC (.int 1)) (fCntL (fSlA (fVar 0) oNo (oOf (fVar 2))) (fVar 3)))))
abbrev alP : Pat := (pTup 2 (psCons (pName 2) (psCons (pName 3) psNil)))
theorem al_loop {held : List (Str × Str)} (hf : held.length ≤ 4) {st : List O} : ∀ (r pre : List (Str × Str)) (c : Nat) (x2 x3 : Slot), pre ++ r = held → c ≤ 5 ^ pre.length → ∃ y2 y3, loopF alP alB (enumT pre.length (r.map eSl)) ⟨[.val (.lst (held.map eSl)), .val (nI c), x2, x3], [], st⟩ = .ok .nx ⟨[.val (.lst (held.map eSl)), .val (nI (allF pre r c)), y2, y3], [], st⟩
  | [], pre, c, x2, x3, _, _ => ⟨x2, x3, rfl⟩
  | x :: r, pre, c, x2, x3, e, hc => by
    let E (c : Nat) (x2 x3 : Slot) : S := ⟨[.val (.lst (held.map eSl)), .val (nI c), x2, x3], [], st⟩
    have lh : pre.length + (r.length + 1) ≤ 4 := by
      have := congrArg List.length e
      rw [List.length_append, List.length_cons] at this
      omega
    have e2 : (pre ++ [x]) ++ r = held := by rw [List.append_assoc]; exact e
    have cn : cntD x pre ≤ pre.length := (by rw [← cntD_eq]; exact List.count_le_length)
    have nx : c * (1 + cntD x pre) ≤ 5 ^ (pre ++ [x]).length := by
      rw [List.length_append, List.length_singleton, Nat.pow_succ]
      exact Nat.mul_le_mul hc (by omega)
    have big : c ≤ 625 := Nat.le_trans hc (Nat.pow_le_pow_right (by omega) (show pre.length ≤ 4 by omega))
    have a1 : fSlA (fVar 0) oNo (oOf (fVar 2)) (E c (.val (nI pre.length)) (.val (eSl x))) = .ok (.lst (pre.map eSl)) (E c (.val (nI pre.length)) (.val (eSl x))) := by
      have : cutT (held.map eSl) none (some ((pre.length : Nat) : Int)) = pre.map eSl := by
        rw [cut_to, ← List.map_take, ← e, List.take_left]
      show R.ok (T.lst (cutT (held.map eSl) none (some ((pre.length : Nat) : Int)))) _ = _
      rw [this]
    have a2 := cnt_sl (h := fVar 3) (a := x) a1 (s2 := E c (.val (nI pre.length)) (.val (eSl x))) rfl
    rw [cntD_eq] at a2
    have a3 : alB (E c (.val (nI pre.length)) (.val (eSl x))) = .ok .nx (E (c * (1 + cntD x pre)) (.val (nI pre.length)) (.val (eSl x))) := by
      refine sSet_ok (r_bin (f := fVar 1) (x := nI c) (y := .int ((1 + cntD x pre : Nat) : Int)) rfl (r_bin (f := fC (.int 1)) (x := .int 1) rfl a2 ?_) ?_)
      · show some (T.int (1 + ((cntD x pre : Nat) : Int))) = _
        congr 2
      · have p4 : (625 : Nat) < 2 ^ 400 := by decide
        refine (mulA (i := (c : Int)) (j := ((1 + cntD x pre : Nat) : Int)) (by omega) (by omega)).trans ?_
        rw [← Int.natCast_mul]
        rfl
    obtain ⟨y2, y3, e3⟩ := al_loop hf (st := st) r (pre ++ [x]) (c * (1 + cntD x pre)) (.val (nI pre.length)) (.val (eSl x)) e2 nx
    refine ⟨y2, y3, ?_⟩
    rw [List.length_append, List.length_singleton] at e3
    show loopF alP alB (.pr [.int (pre.length : Nat), eSl x] :: enumT (pre.length + 1) (r.map eSl)) _ = _
    refine Eq.trans ?_ (e3 : _ = R.ok Fl.nx ⟨[.val (.lst (held.map eSl)), .val (nI (allF pre (x :: r) c)), y2, y3], [], st⟩)
    show ((alP (.pr [.int (pre.length : Nat), eSl x]) (E c x2 x3)).bind _) = _
    rw [show alP (.pr [.int (pre.length : Nat), eSl x]) (E c x2 x3) = .ok () (E c (.val (nI pre.length)) (.val (eSl x))) from rfl, Rbind_ok, a3, Rbind_ok]
theorem c_all {held : List (Str × Str)} (hf : held.length ≤ 4) (s : S) : callF F__law_all [.lst (held.map eSl)] s = .ok (.val (nI (allF [] held 1))) s := by
  refine callF_pure (np := 1) (nn := 4) (f := v__law_all) rfl (fun st => ?_) s
  obtain ⟨y2, y3, e⟩ := al_loop hf (st := st) held [] 1 .un .un rfl (by decide)
  refine ⟨_, _, seq_ok (s1 := ⟨[.val (.lst (held.map eSl)), .val (.int 1), .un, .un], [], st⟩) rfl (seq_ok (s1 := ⟨[.val (.lst (held.map eSl)), .val (nI (allF [] held 1)), y2, y3], [], st⟩) ?_ (r_ret rfl))⟩
  exact e
def withB (b : Bx) (ms : List El) : Bx := ⟨b.name, b.slots, ms⟩
def withG (g : Gr) (k : Nat) (b : Bx) : Gr := ⟨g.spaces, g.boxes.set k b⟩
theorem withB_ok {sp : List Str} {b : Bx} (bo : BxOk sp b) {ms : List El} (hl : ms.length ≤ 3) (hm : ∀ m ∈ ms, m ∈ grp b) : BxOk sp (withB b ms) := ⟨bo.name, bo.few, bo.slots, hl, fun m q => gp_ok bo (hm m q)⟩
theorem set_map_same {α β : Type} {f : α → β} {a : α} : ∀ {l : List α} {k : Nat} {x : α}, l[k]? = some x → f a = f x → (l.set k a).map f = l.map f
  | [], k, _, h, _ => by cases h
  | y :: l, 0, x, h, e => by
    have : y = x := Option.some.inj h
    rw [this, List.set_cons_zero, List.map_cons, List.map_cons, e]
  | y :: l, k + 1, x, h, e => by
    rw [List.set_cons_succ, List.map_cons, List.map_cons, set_map_same (l := l) (k := k) h e]
theorem withG_ok {g : Gr} (hg : GrOk g) {k : Nat} {b c : Bx} (hb : g.boxes[k]? = some b) (hc : BxOk g.spaces c) (hn : c.name = b.name) : GrOk (withG g k c) := ⟨hg.one, hg.few, hg.sp, hg.rs, by show (g.boxes.set k c).length ≤ 8; rw [List.length_set]; exact hg.bx, fun x m => by
    rcases List.mem_or_eq_of_mem_set m with q | q
    · exact hg.ok x q
    · rw [q]; exact hc, by
    show Rise ((g.boxes.set k c).map (·.name))
    rw [set_map_same hb hn]
    exact hg.rb⟩
theorem c_with {g : Gr} {k : Nat} {b : Bx} (hk : g.boxes.length ≤ 8) (hb : g.boxes[k]? = some b) (ms : List El) (s : S) : callF F__law_with [eGr g, nI k, .lst (ms.map eMv)] s = .ok (.val (eGr (withG g k (withB b ms)))) s := by
  refine callF_pure (np := 3) (nn := 6) (f := v__law_with) rfl (fun st => ?_) s
  have kl : k < g.boxes.length := (List.getElem?_eq_some_iff.mp hb).1
  let E : S := ⟨[.val (eGr g), .val (nI k), .val (.lst (ms.map eMv)), .val (.str b.name), .val (.tup (b.slots.map eSl)), .val (.tup (b.moves.map eMv))], [], st⟩
  have ix : ixAt (g.boxes.map eBx) ((k : Nat) : Int) = some (eBx b) := x_ixN (by rw [List.getElem?_map, hb]; rfl)
  have a1 : sAsg (pTup 3 (psCons (pName 3) (psCons (pName 4) (psCons (pName 5) psNil)))) (fBin opIx (fBin opIx (fVar 0) (fC (.int 1))) (fVar 1)) (st0 6 [eGr g, nI k, .lst (ms.map eMv)] st) = .ok .nx E := by
    have q : fBin opIx (fBin opIx (fVar 0) (fC (.int 1))) (fVar 1) (st0 6 [eGr g, nI k, .lst (ms.map eMv)] st) = .ok (eBx b) (st0 6 [eGr g, nI k, .lst (ms.map eMv)] st) := r_bin (f := fBin opIx (fVar 0) (fC (.int 1))) (h := fVar 1) (x := .tup (g.boxes.map eBx)) (y := nI k) rfl rfl ix
    rw [x_sAsg, q, Rbind_ok]
    rfl
  refine ⟨E.env, [], seq_ok (s1 := E) a1 (r_ret (r_tup (r_two (f := fBin opIx (fVar 0) (fC (.int 0))) (a := .tup (g.spaces.map .str)) (b := .tup ((g.boxes.set k (withB b ms)).map eBx)) (s1 := E) rfl ?_) (Nat.le_of_ble_eq_true rfl)))⟩
  have b1 : fSlA (fBin opIx (fVar 0) (fC (.int 1))) oNo (oOf (fVar 1)) E = .ok (.tup ((g.boxes.map eBx).take k)) E := by
    show R.ok (T.tup (cutT (g.boxes.map eBx) none (some ((k : Nat) : Int)))) E = _
    rw [cut_to]
  have b2 : fTup (aCons (fTup (aCons (fVar 3) (aCons (fVar 4) (aCons (fCl clTup (aCons (fVar 2) aNil)) aNil)))) aNil) E = .ok (.tup [eBx (withB b ms)]) E := r_tup (r_one (r_tup (ts := [.str b.name, .tup (b.slots.map eSl), .tup (ms.map eMv)]) (s1 := E) rfl (Nat.le_of_ble_eq_true rfl))) (Nat.le_of_ble_eq_true rfl)
  have b3 : fSlA (fBin opIx (fVar 0) (fC (.int 1))) (oOf (fBin opAdd (fVar 1) (fC (.int 1)))) oNo E = .ok (.tup ((g.boxes.map eBx).drop (k + 1))) E := by
    show R.ok (T.tup (cutT (g.boxes.map eBx) (some ((k : Int) + 1)) none)) E = _
    rw [show ((k : Int) + 1) = ((k + 1 : Nat) : Int) from rfl, cut_from]
  refine r_bin (r_bin b1 b2 (addT5 ?_)) b3 ((addT5 ?_).trans ?_)
  · rw [List.length_take, List.length_map]
    simp
    omega
  · rw [List.length_append, List.length_take, List.length_drop, List.length_map]
    simp
    omega
  · congr 2
    rw [List.set_eq_take_append_cons_drop, if_pos kl, List.map_append, List.map_cons, List.map_take, List.map_drop, List.append_assoc]
    rfl
end L2.Z.D
set_option Elab.async false
set_option linter.all false
set_option maxRecDepth 100000
set_option maxHeartbeats 1000000
set_option exponentiation.threshold 500
namespace L2.Z.D
open PySem PySem.Spec PyProof.Rows
theorem perm_of {α : Type} {l m : List α} (h1 : l.Nodup) (h2 : m.Nodup) (h : ∀ x, x ∈ l ↔ x ∈ m) : l.Perm m := (List.perm_ext_iff_of_nodup h1 h2).mpr h
theorem toks_ord : ∀ (r r' : List Nat) (L L' : List (Int ⊕ List Nat)), PySem.W.keyToksAll (toDs (r.map fun (k : Nat) => T.int (k : Int))) ++ L = PySem.W.keyToksAll (toDs (r'.map fun (k : Nat) => T.int (k : Int))) ++ L' → r = r' ∧ L = L'
  | [], [], L, L', h => by
    simp [toDs, PySem.W.keyToksAll] at h
    exact ⟨rfl, h⟩
  | [], k :: r', L, L', h => by simp [toDs, PySem.W.keyToksAll] at h
  | k :: r, [], L, L', h => by simp [toDs, PySem.W.keyToksAll] at h
  | k :: r, k' :: r', L, L', h => by
    simp only [List.map_cons, toDs, toD, PySem.W.keyToksAll, PySem.W.keyToks, List.cons_append, List.nil_append, List.cons.injEq, Sum.inl.injEq, true_and] at h
    obtain ⟨h1, h2⟩ := h
    obtain ⟨e1, e2⟩ := toks_ord r r' L L' h2
    exact ⟨by rw [e1, show k = k' by omega], e2⟩
theorem mv_toks {p q : El} (h : PySem.W.keyToks (toD (eMv p)) = PySem.W.keyToks (toD (eMv q))) : p = q := by
  have h : Sum.inl 1 :: (PySem.W.keyToksAll (toDs (p.1.map fun (k : Nat) => T.int (k : Int))) ++ PySem.W.keyToksAll (toDs [.int p.2])) = Sum.inl 1 :: (PySem.W.keyToksAll (toDs (q.1.map fun (k : Nat) => T.int (k : Int))) ++ PySem.W.keyToksAll (toDs [.int q.2])) := h
  simp only [List.cons.injEq, true_and] at h
  obtain ⟨h1, h2⟩ := toks_ord _ _ _ _ h
  simp only [toDs, toD, PySem.W.keyToksAll, PySem.W.keyToks, List.cons_append, List.nil_append, List.cons.injEq, Sum.inl.injEq, true_and, and_true] at h2
  exact Prod.ext h1 h2
theorem sort_mv {A C : List El} (p : A.Perm C) : sortT (A.map eMv) = sortT (C.map eMv) := sortT_permT (p.map eMv) fun x mx y my e => by
  obtain ⟨a, _, rfl⟩ := List.mem_map.mp mx
  obtain ⟨b, _, rfl⟩ := List.mem_map.mp my
  rw [mv_toks e]
theorem ltWith_all {f : PyData → PyData → Option Bool} : ∀ (xs ys : List PyData), (∀ x ∈ xs, ∀ y ∈ ys, ∃ c, f x y = some c) → ∃ c, ltWith f xs ys = some c
  | [], [], _ => ⟨false, rfl⟩
  | [], _ :: _, _ => ⟨true, rfl⟩
  | _ :: _, [], _ => ⟨false, rfl⟩
  | x :: xs, y :: ys, h => by
    rw [ltWith]
    cases PyData.eqv x y with
    | true => exact ltWith_all xs ys fun a ma b mb => h a (List.mem_cons_of_mem _ ma) b (List.mem_cons_of_mem _ mb)
    | false => exact h x (List.mem_cons_self ..) y (List.mem_cons_self ..)
theorem ltWith_two {f : PyData → PyData → Option Bool} {a b a' b' : PyData} (h1 : PyData.eqv a a' = false → ∃ c, f a a' = some c) (h2 : PyData.eqv a a' = true → ∃ c, f b b' = some c) : ∃ c, ltWith f [a, b] [a', b'] = some c := by
  rw [ltWith]
  cases h : PyData.eqv a a' with
  | true =>
    simp only [if_true]
    rw [ltWith]
    cases PyData.eqv b b' with
    | true => exact ⟨false, rfl⟩
    | false => exact h2 h
  | false => exact h1 h
theorem int_lt (n : Nat) (a b : Int) : ∃ c, ltD (n + 1) (.int a) (.int b) = some c := ⟨_, rfl⟩
theorem pureA_of : ∀ {l : List PyData}, (∀ d ∈ l, pureD d = true) → pureA l = true
  | [], _ => rfl
  | d :: l, h => by
    rw [pureA, h d (List.mem_cons_self ..), pureA_of fun x m => h x (List.mem_cons_of_mem _ m)]
    rfl
theorem perm_map_inv {α β : Type} {f : α → β} {l m : List β} (p : l.Perm m) : ∀ k : List α, m = k.map f → ∃ j : List α, j.Perm k ∧ l = j.map f := by
  induction p with
  | nil =>
    intro k e
    cases k with
    | nil => exact ⟨[], .refl _, rfl⟩
    | cons _ _ => cases e
  | cons x p ih =>
    intro k e
    cases k with
    | nil => cases e
    | cons a k =>
      rw [List.map_cons] at e
      injection e with e1 e2
      obtain ⟨j, pj, ej⟩ := ih k e2
      exact ⟨a :: j, pj.cons a, by rw [List.map_cons, ← e1, ej]⟩
  | swap x y r =>
    intro k e
    match k, e with
    | a :: b :: k, e =>
      rw [List.map_cons, List.map_cons] at e
      injection e with e1 e2
      injection e2 with e2 e3
      exact ⟨b :: a :: k, .swap a b k, by rw [List.map_cons, List.map_cons, e1, e2, e3]⟩
  | trans p q ih1 ih2 =>
    intro k e
    obtain ⟨j, pj, ej⟩ := ih2 k e
    obtain ⟨i, pi, ei⟩ := ih1 j ej
    exact ⟨i, pi.trans pj, ei⟩
theorem ltm (p q : El) : ∃ c, ltD 9 (toD (eMv p)) (toD (eMv q)) = some c := by
  refine ltWith_two (f := ltD 8) (fun _ => ?_) (fun _ => int_lt 7 p.2 q.2)
  refine ltWith_all (f := ltD 7) _ _ fun x mx y my => ?_
  rw [toDs_map, List.map_map] at mx my
  obtain ⟨a, _, rfl⟩ := List.mem_map.mp mx
  obtain ⟨b, _, rfl⟩ := List.mem_map.mp my
  exact int_lt 6 _ _
theorem pure_mv (p : El) : pureD (toD (eMv p)) = true := by
  refine pureA_of fun d m => ?_
  simp only [toDs, List.mem_cons, List.not_mem_nil, or_false] at m
  rcases m with rfl | rfl
  · refine pureA_of fun d m => ?_
    rw [toDs_map, List.map_map] at m
    obtain ⟨a, _, rfl⟩ := List.mem_map.mp m
    rfl
  · rfl
theorem lt_or {p q : El} (ne : p ≠ q) : ltD 9 (toD (eMv p)) (toD (eMv q)) = some true ∨ ltD 9 (toD (eMv q)) (toD (eMv p)) = some true := by
  obtain ⟨c, h1⟩ := ltm p q
  obtain ⟨d, h2⟩ := ltm q p
  cases c with
  | true => exact .inl h1
  | false =>
    cases d with
    | true => exact .inr h2
    | false =>
      have e1 := (ltD_toks 9 _ _ _ (pure_mv p) (pure_mv q) h1).1
      have e2 := (ltD_toks 9 _ _ _ (pure_mv q) (pure_mv p) h2).1
      exact absurd (mv_toks ((PyProof.Rows.listOrd PyProof.Rows.itemOrd).total _ _ e1.symm e2.symm)) ne
theorem strict_mv : ∀ {l : List El}, l.Nodup → strictT (l.map eMv) = true
  | [], _ => rfl
  | x :: l, nd => by
    obtain ⟨h1, h2⟩ := List.nodup_cons.mp nd
    rw [List.map_cons, strictT, strict_mv h2, Bool.and_true]
    refine List.all_eq_true.mpr fun t m => ?_
    obtain ⟨y, my, rfl⟩ := List.mem_map.mp m
    have ne : x ≠ y := fun e => h1 (e ▸ my)
    rcases lt_or ne with e | e
    · rw [e]; rfl
    · rw [e]; simp
theorem dep_mvs (l : List El) : PyData.depthAll (toDs (l.map eMv)) ≤ 100 := Nat.le_trans (depAll_le (n := 2) fun t m => by
  obtain ⟨a, _, rfl⟩ := List.mem_map.mp m
  exact dep_eMv a) (by omega)
theorem srtMx_mv {l : List El} (hl : l.length ≤ 4000) : srtMx (l.map eMv) = true := by
  unfold srtMx
  have k0 : okT (.lst (l.map eMv)) = true := (cl_ok (t := .lst (l.map eMv)) (by rw [cl_lst]; exact cls_map fun a _ => cl_eMv a)).1
  rw [k0, toDs_map, List.map_map]
  simp only [Bool.and_eq_true, decide_eq_true_eq, List.all_eq_true, Bool.true_and, List.length_map]
  refine ⟨⟨⟨⟨by omega, fun d m => ?_⟩, fun d m e n => ?_⟩, fun d m => ?_⟩, ?_⟩
  · obtain ⟨a, _, rfl⟩ := List.mem_map.mp m
    exact pure_mv a
  · obtain ⟨a, _, rfl⟩ := List.mem_map.mp m
    obtain ⟨b, _, rfl⟩ := List.mem_map.mp n
    obtain ⟨c, h⟩ := ltm a b
    show (ltD 9 (toD (eMv a)) (toD (eMv b))).isSome = true
    rw [h]
    rfl
  · obtain ⟨a, _, rfl⟩ := List.mem_map.mp m
    rfl
  · have := dep_mvs l
    rwa [toDs_map, List.map_map] at this
theorem nkOk_of {t : T} (h1 : isTupT t = true) (h2 : (nkey t).isSome = true) : nkOk t = true := by
  unfold nkOk
  rw [h1, h2]
  rfl
theorem nks_ord (o : List Nat) : ∃ ks, nks (o.map fun (k : Nat) => T.int (k : Int)) = some ks ∧ NestedKey.depthAll ks ≤ 1 := by
  induction o with
  | nil => exact ⟨[], rfl, by decide⟩
  | cons k o ih =>
    obtain ⟨ks, e, hd⟩ := ih
    refine ⟨_ :: ks, by rw [List.map_cons, nks, nk0, e]; rfl, ?_⟩
    rw [NestedKey.depthAll]
    refine Nat.max_le.mpr ⟨?_, hd⟩
    rw [NestedKey.depth]
    all_goals omega
theorem nk_ord (o : List Nat) : ∃ k, nk0 (eOrd o) = some k ∧ k.depth ≤ 2 := by
  obtain ⟨ks, e, hd⟩ := nks_ord o
  refine ⟨.tup ks, by rw [eOrd, nk0, e]; rfl, ?_⟩
  rw [NestedKey.depth]
  omega
theorem nkey_some {t : T} {k : NestedKey} (h : nk0 t = some k) (hd : k.depth ≤ 8) : nkey t = some k := by
  unfold nkey
  rw [h]
  exact if_pos hd
theorem nkOk_ord (o : List Nat) : nkOk (eOrd o) = true := by
  obtain ⟨k, e, hd⟩ := nk_ord o
  exact nkOk_of rfl (by rw [nkey_some e (by omega)]; rfl)
theorem nkOk_mv (m : El) : nkOk (eMv m) = true := by
  obtain ⟨k, e, hd⟩ := nk_ord m.1
  refine nkOk_of rfl ?_
  have e2 : nk0 (eMv m) = some (.tup [k, .num m.2]) := by
    rw [eMv, nk0, nks, e, nks, nk0, nks]
    rfl
  rw [nkey_some e2 ?_]
  · rfl
  · rw [NestedKey.depth, NestedKey.depthAll, NestedKey.depthAll, NestedKey.depthAll, NestedKey.depth]
    all_goals omega
theorem ord_inj {o p : List Nat} (h : eOrd o = eOrd p) : o = p := by
  have h : o.map (fun (k : Nat) => T.int (k : Int)) = p.map fun (k : Nat) => T.int (k : Int) := by injection h
  exact map_injOn (fun x _ y _ e => by injection e with e; omega) h
theorem ddT_cnt {l : List (List Nat)} {M : List (List Nat)} (nd : M.Nodup) (h : ∀ o, o ∈ M ↔ o ∈ l) : (ddT (l.map eOrd)).length = M.length := by
  have inj : ∀ o p : List Nat, nkey (eOrd o) = nkey (eOrd p) → o = p := fun o p e => by
    obtain ⟨k, e1, hd⟩ := nk_ord o
    obtain ⟨k2, e2, hd2⟩ := nk_ord p
    rw [nkey_some e1 (by omega), nkey_some e2 (by omega)] at e
    cases e
    exact ord_inj (nkT_inj e1 e2)
  have n1 := ddT_nd (l.map eOrd)
  have n2 : (M.map fun o => nkey (eOrd o)).Nodup := by
    refine List.nodup_iff_pairwise_ne.mpr (List.pairwise_map.mpr ?_)
    exact (List.nodup_iff_pairwise_ne.mp nd).imp fun ne z => ne (inj _ _ z)
  have p : ((ddT (l.map eOrd)).map nkey).Perm (M.map fun o => nkey (eOrd o)) := by
    refine perm_of n1 n2 fun k => ⟨fun m => ?_, fun m => ?_⟩
    · obtain ⟨y, my, rfl⟩ := List.mem_map.mp m
      obtain ⟨o, mo, rfl⟩ := List.mem_map.mp (ddT_sub my)
      exact List.mem_map.mpr ⟨o, (h o).mpr mo, rfl⟩
    · obtain ⟨o, mo, rfl⟩ := List.mem_map.mp m
      obtain ⟨y, my, ey⟩ := ddT_all (List.mem_map.mpr ⟨o, (h o).mp mo, rfl⟩ : eOrd o ∈ l.map eOrd)
      exact List.mem_map.mpr ⟨y, my, ey⟩
  have := p.length_eq
  rwa [List.length_map, List.length_map] at this
theorem in_mvT (x : El) (l : List El) : opIn (eMv x) (.tup (l.map eMv)) = some (.bl (decide (x ∈ l))) := by
  have hc : cls (l.map eMv) = true := cls_map fun a _ => cl_eMv a
  have a := any_eqb (x := eMv x) (ts := l.map eMv) (cl_eMv x) hc
  rw [opIn_tup (cl_eMv x) hc (Nat.le_trans (dep_eMv x) (by omega))]
  congr 2
  by_cases q : x ∈ l
  · rw [decide_eq_true q]
    exact a.mpr (mem_eMv.mpr q)
  · rw [decide_eq_false q]
    cases h : ((l.map eMv).any fun y => eqb y (eMv x)) with
    | false => rfl
    | true => exact absurd (mem_eMv.mp (a.mp h)) q
theorem notin_mvT (x : El) (l : List El) : opNotIn (eMv x) (.tup (l.map eMv)) = some (.bl (!decide (x ∈ l))) := by
  show (match opIn (eMv x) (.tup (l.map eMv)) with | some (.bl c) => some (T.bl (!c)) | _ => none) = _
  rw [in_mvT]
theorem ne_same {x : T} (hx : x.cl = true) (hd : x.dep ≤ 100) : opNe x x = some (.bl false) := by
  rw [opNe_cl hx hx (.inl hd), eqb_refl hx]
  rfl
theorem eq_self {x : T} (hx : x.cl = true) (hd : x.dep ≤ 100) : opEq x x = some (.bl true) := by
  rw [opEq_cl hx hx (.inl hd), eqb_refl hx]
theorem ne_nils : opNe (.lst []) (.lst []) = some (.bl false) := ne_same (x := .lst []) rfl (by decide)
theorem ne_str {z w : Str} (h : z = w) : opNe (.str z) (.str w) = some (.bl false) := by
  subst h
  exact ne_same (x := .str z) rfl (Nat.zero_le _)
end L2.Z.D
set_option Elab.async false
set_option linter.all false
set_option maxRecDepth 100000
set_option maxHeartbeats 1000000
set_option exponentiation.threshold 500
namespace L2.Z.D
open PySem PySem.Spec PyProof.Rows
variable {B : List O}
abbrev hdT (b : Bx) : T := .tup (b.slots.map eSl)
abbrev oT (L : List El) : T := .tup (L.map eMv)
abbrev cS (b : Bx) (L : List El) (x3 x4 x5 x6 x7 x8 x9 : Slot) (st : List O) : S := ⟨[.val (.loc 0), .val (hdT b), .val (oT L), x3, x4, x5, x6, x7, x8, x9, .un, .un, .un], [], st⟩
abbrev p2 : Pat := (pTup 2 (psCons (pName 10) (psCons (pName 11) psNil)))
noncomputable abbrev cl0 : Sv := (sPar [5, 6] (anCons (nVal (fTupRg (fCl clLen (aCons (fVar 1) aNil)))) (anCons (nVal (fLst (aLc (iAny (fVar 2)) p2 tTrue (fVar 10) [10, 11]))) anNil)))
noncomputable abbrev cl1 : Sv := (sIf (tOrZ (tE (fBin opNotIn (fTup (aCons (fVar 5) (aCons (fC (.int 1)) aNil))) (fVar 2))) (tE (fBin opNe (fLst (aLc (iLst (fVar 6)) (pName 10) (tE (fBin opNe (fVal (fCall F__law_after (aCons (fVar 1) (aCons (fVar 10) aNil)))) (fVar 1))) (fVar 10) [10])) (fLst (aLst aNil))))) (sRet (fC (.bl false))) sNx)
noncomputable abbrev cl2 : Sv := (sSet 3 (fLst (aLc (iAny (fVar 2)) p2 tTrue (fTup (aCons (fVal (fCall F__law_back (aCons (fVar 10) aNil))) (aCons (fVar 11) aNil))) [10, 11])))
noncomputable abbrev cl3 : Sv := (sIf (tE (fBin opNe (fLst (aLc (iLst (fVar 3)) (pName 12) (tOrZ (tE (fBin opNotIn (fVar 12) (fVar 2))) (tE (fBin opNotIn (fBin opIx (fVar 12) (fC (.int 1))) (fTup (aCons (fC (.int 1)) (aCons (fUn opNeg (fC (.int 1))) aNil)))))) (fVar 12) [12])) (fLst (aLst aNil)))) (sRet (fC (.bl false))) sNx)
noncomputable abbrev cl4 : Sv := (sAsg (pTup 2 (psCons (pTup 2 (psCons (pName 8) (psCons (pName 9) psNil))) (psCons (pName 7) psNil))) (fTup (aCons (fVal (fCall F__law_pick (aCons (fVar 0) (aCons (fVar 2) aNil)))) (aCons (fLenSetN (iLst (fVar 6))) aNil))))
noncomputable abbrev cl5 : Sv := (sSet 4 (fLst (aLc (iAny (fVar 2)) p2 tTrue (fTup (aCons (fVal (fCall F__law_after (aCons (fVar 10) (aCons (fVar 8) aNil)))) (aCons (fBin opMulA (fVar 11) (fVar 9)) aNil))) [10, 11])))
noncomputable abbrev cl6 : Sv := (sIf (tE (fBin opNe (fLst (aLc (iLst (fVar 4)) (pName 12) (tE (fBin opNotIn (fVar 12) (fVar 2))) (fVar 12) [12])) (fLst (aLst aNil)))) (sRet (fC (.bl false))) sNx)
noncomputable abbrev cl7 : Sv := (sIf (tOrZ (tE (fBin opNe (fCl clLen (aCons (fVar 2) aNil)) (fIf (tE (fBin opIn (fTup (aCons (fVar 5) (aCons (fUn opNeg (fC (.int 1))) aNil))) (fVar 2))) (fBin opMulA (fC (.int 2)) (fVar 7)) (fVar 7)))) (tE (fBin opNe (fBin opMod (fVal (fCall F__law_all (aCons (fLst (fClF clLst (aCons (fVar 1) aNil))) aNil))) (fVar 7)) (fC (.int 0))))) (sRet (fC (.bl false))) sNx)
noncomputable abbrev cl8 : Sv := (sRet (fAnd (fBin opEq (fLst (fClF clLst (aCons (fVar 2) aNil))) (fLst (aSortSetM (iTp (fVar 2))))) (fIsi "tuple" (fVar 2))))
theorem closed_eq : v__law_closed = sSeq cl0 (sSeq cl1 (sSeq cl2 (sSeq cl3 (sSeq cl4 (sSeq cl5 (sSeq cl6 (sSeq cl7 cl8))))))) := rfl
/-- what is known of a told group -/
structure Gp (sp : List Str) (b : Bx) (L : List El) : Prop where
  bo : BxOk sp b
  pl : L.Perm (grp b)
  hs : sortT ((grp b).map eMv) = L.map eMv
section
variable {sp : List Str} {b : Bx} {L : List El} (h : Gp sp b L)
include h
theorem Gp.mem (x : El) : x ∈ L ↔ x ∈ grp b := h.pl.mem_iff
theorem Gp.ok {x : El} (m : x ∈ L) : OrdOk b.slots x.1 ∧ SgOk x.2 := gp_ok h.bo (h.pl.mem_iff.mp m)
theorem Gp.nd : L.Nodup := h.pl.nodup_iff.mpr (grp_ok h.bo).nd
theorem Gp.len : L.length ≤ 48 := by
  rw [h.pl.length_eq, gp_len h.bo]
  have := or_few h.bo
  split <;> omega
theorem Gp.len2 : L.length = if (List.range b.slots.length, (-1 : Int)) ∈ L then 2 * (orO b).length else (orO b).length := by
  rw [h.pl.length_eq, gp_len h.bo]
  have := h.mem (List.range b.slots.length, (-1 : Int))
  split
  · rename_i c; rw [if_pos (this.mpr c)]
  · rename_i c; rw [if_neg fun z => c (this.mp z)]
theorem Gp.sorted : sortT (L.map eMv) = L.map eMv := (sort_mv h.pl).trans h.hs
theorem Gp.pos : 0 < L.length := List.length_pos_of_mem ((h.mem _).mpr (gp_still h.bo))
theorem Gp.many {l : List T} (e : l = (L.map (·.1)).map eOrd) : (ddT l).length = (orO b).length := by
  rw [e]
  refine ddT_cnt (ddO_nd _) fun o => ?_
  rw [mem_or, List.mem_map]
  exact ⟨fun ⟨s, m⟩ => ⟨(o, s), (h.mem _).mpr m, rfl⟩, fun ⟨x, m, e⟩ => ⟨x.2, by rw [← e]; exact (h.mem _).mp m⟩⟩
variable {x3 x4 x5 x6 x7 x8 x9 : Slot} {st : List O}
abbrev orT (L : List El) : T := .lst ((L.map (·.1)).map eOrd)
omit h in
theorem c0 (hf : b.slots.length ≤ 4) : cl0 (cS b L x3 x4 x5 x6 x7 x8 x9 st) = .ok .nx (cS b L x3 x4 (.val (eOrd (List.range b.slots.length))) (.val (orT L)) x7 x8 x9 st) := by
  let E := cS b L x3 x4 x5 x6 x7 x8 x9 st
  have a1 : fTupRg (fCl clLen (aCons (fVar 1) aNil)) E = .ok (eOrd (List.range b.slots.length)) E := by
    have k1 : (-1000000 : Int) ≤ b.slots.length := by omega
    have k2 : (b.slots.length : Int) ≤ 1000000 := by omega
    have := range_eOrd b.slots.length
    simp [E, k1, k2, this]
  have a2 : aLc (iAny (fVar 2)) p2 tTrue (fVar 10) [10, 11] E = .ok (L.map fun m => eOrd m.1) E := mapS (l := L) (en := eMv) _ rfl fun m _ => ⟨_, rfl, rfl, rfl, rfl, rfl⟩
  have a3 : fLst (aLc (iAny (fVar 2)) p2 tTrue (fVar 10) [10, 11]) E = .ok (orT L) E := by
    refine (r_lst a2).trans ?_
    show R.ok (T.lst (L.map fun m => eOrd m.1)) E = R.ok (T.lst ((L.map (·.1)).map eOrd)) E
    rw [List.map_map]
    rfl
  exact r_par2 (is := [5, 6]) (r_nVal a1) (r_nVal a3)
theorem held_after {o : List Nat} (oo : OrdOk b.slots o) (s : S) : callF F__law_after [hdT b, eOrd o] s = .ok (.val (hdT b)) s := by
  have := c_after eSl d0 (row := b.slots) (o := o) oo.lt s
  rw [ord_keep oo] at this
  exact this
omit h in
theorem hd_cl : (hdT b).cl = true ∧ (hdT b).dep ≤ 100 := ⟨cls_map fun _ _ => rfl, Nat.le_trans (dep_tup (dep_map fun q _ => dep_eSl q)) (by omega)⟩
omit h in
theorem fil_none {α : Type} (l : List α) (e : α → T) : (l.filter fun _ => false).map e = [] := by
  rw [List.filter_eq_nil_iff.mpr fun _ _ => Bool.false_ne_true]
  rfl
theorem c1 : cl1 (cS b L x3 x4 (.val (eOrd (List.range b.slots.length))) (.val (orT L)) x7 x8 x9 st) = .ok .nx (cS b L x3 x4 (.val (eOrd (List.range b.slots.length))) (.val (orT L)) x7 x8 x9 st) := by
  let E := cS b L x3 x4 (.val (eOrd (List.range b.slots.length))) (.val (orT L)) x7 x8 x9 st
  have a1 : tE (fBin opNotIn (fTup (aCons (fVar 5) (aCons (fC (.int 1)) aNil))) (fVar 2)) E = .ok false E := by
    refine r_tE (r_bin (x := eMv (stillO b.slots.length)) (y := oT L) (r_tup (r_two (f := fVar 5) (h := fC (.int 1)) (s1 := E) rfl rfl) (Nat.le_of_ble_eq_true rfl)) rfl ?_)
    rw [notin_mvT, decide_eq_true ((h.mem _).mpr (gp_still h.bo))]
    rfl
  have a2 : aLc (iLst (fVar 6)) (pName 10) (tE (fBin opNe (fVal (fCall F__law_after (aCons (fVar 1) (aCons (fVar 10) aNil)))) (fVar 1))) (fVar 10) [10] E = .ok [] E := by
    refine Eq.trans (b := R.ok (((L.map (·.1)).filter fun _ => false).map eOrd) E) (filS (it := (iLst (fVar 6))) (p := (pName 10)) (c := (tE (fBin opNe (fVal (fCall F__law_after (aCons (fVar 1) (aCons (fVar 10) aNil)))) (fVar 1)))) (f := (fVar 10)) (s := E) (vs := [10]) (l := L.map (·.1)) (en := eOrd) (fun _ => false) eOrd rfl fun o mo => ⟨⟨[.val (.loc 0), .val (hdT b), .val (oT L), x3, x4, .val (eOrd (List.range b.slots.length)), .val (orT L), x7, x8, x9, .val (eOrd o), .un, .un], [], st⟩, rfl, ?_, fun z => absurd z Bool.false_ne_true, rfl, rfl, rfl⟩) (by rw [fil_none])
    obtain ⟨x, mx, rfl⟩ := List.mem_map.mp mo
    exact r_tE (r_bin (x := hdT b) (y := hdT b) (r_call (fa := aCons (fVar 1) (aCons (fVar 10) aNil)) (ts := [hdT b, eOrd x.1]) rfl (held_after h (h.ok mx).1 _)) rfl (ne_same hd_cl.1 hd_cl.2))
  exact sIf_f (r_or2 a1 (r_tE (r_bin (x := .lst []) (y := .lst []) (r_lst a2) rfl ne_nils))) rfl
abbrev unT (L : List El) : T := .lst ((L.map invE).map eMv)
theorem c2 : cl2 (cS b L x3 x4 x5 x6 x7 x8 x9 st) = .ok .nx (cS b L (.val (unT L)) x4 x5 x6 x7 x8 x9 st) := by
  let E := cS b L x3 x4 x5 x6 x7 x8 x9 st
  have a2 : aLc (iAny (fVar 2)) p2 tTrue (fTup (aCons (fVal (fCall F__law_back (aCons (fVar 10) aNil))) (aCons (fVar 11) aNil))) [10, 11] E = .ok (L.map fun m => eMv (invE m)) E := mapS (l := L) (en := eMv) _ rfl fun m mm => ⟨⟨[.val (.loc 0), .val (hdT b), .val (oT L), x3, x4, x5, x6, x7, x8, x9, .val (eOrd m.1), .val (.int m.2), .un], [], st⟩, rfl, r_tup (r_two (r_call (fa := aCons (fVar 10) aNil) (ts := [eOrd m.1]) rfl (c_back (h.ok mm).1 h.bo.few _)) rfl) (Nat.le_of_ble_eq_true rfl), rfl, rfl, rfl⟩
  refine sSet_ok (i := 3) (s := E) (s1 := E) (t := unT L) ((r_lst a2).trans ?_)
  show R.ok (T.lst (L.map fun m => eMv (invE m))) E = R.ok (T.lst ((L.map invE).map eMv)) E
  rw [List.map_map]
  rfl
omit h in
theorem in_sg {s : Int} (hs : SgOk s) : opNotIn (.int s) (.tup [.int 1, .int (-1)]) = some (.bl false) := by
  rcases hs with rfl | rfl <;> rfl
theorem c3 : cl3 (cS b L (.val (unT L)) x4 x5 x6 x7 x8 x9 st) = .ok .nx (cS b L (.val (unT L)) x4 x5 x6 x7 x8 x9 st) := by
  let E := cS b L (.val (unT L)) x4 x5 x6 x7 x8 x9 st
  have a2 : aLc (iLst (fVar 3)) (pName 12) (tOrZ (tE (fBin opNotIn (fVar 12) (fVar 2))) (tE (fBin opNotIn (fBin opIx (fVar 12) (fC (.int 1))) (fTup (aCons (fC (.int 1)) (aCons (fUn opNeg (fC (.int 1))) aNil)))))) (fVar 12) [12] E = .ok [] E := by
    refine Eq.trans (b := R.ok (((L.map invE).filter fun _ => false).map eMv) E) (filS (it := (iLst (fVar 3))) (p := (pName 12)) (c := (tOrZ (tE (fBin opNotIn (fVar 12) (fVar 2))) (tE (fBin opNotIn (fBin opIx (fVar 12) (fC (.int 1))) (fTup (aCons (fC (.int 1)) (aCons (fUn opNeg (fC (.int 1))) aNil))))))) (f := (fVar 12)) (s := E) (vs := [12]) (l := L.map invE) (en := eMv) (fun _ => false) eMv rfl fun o mo => ⟨⟨[.val (.loc 0), .val (hdT b), .val (oT L), .val (unT L), x4, x5, x6, x7, x8, x9, .un, .un, .val (eMv o)], [], st⟩, rfl, ?_, fun z => absurd z Bool.false_ne_true, rfl, rfl, rfl⟩) (by rw [fil_none])
    obtain ⟨x, mx, rfl⟩ := List.mem_map.mp mo
    have mi : invE x ∈ L := (h.mem _).mpr (gp_inv h.bo ((h.mem _).mp mx))
    refine r_or2 (r_tE (r_bin (x := eMv (invE x)) (y := oT L) rfl rfl ?_)) (r_tE (r_bin (x := .int x.2) (y := .tup [.int 1, .int (-1)]) rfl rfl (in_sg (h.ok mx).2)))
    rw [notin_mvT, decide_eq_true mi]
    rfl
  exact sIf_f (r_tE (r_bin (x := .lst []) (y := .lst []) (r_lst a2) rfl ne_nils)) rfl
theorem c4 {m : Nat} (hd : Dq B m st) (hm : m ≤ 1000000) : ∃ q ∈ L, ∃ st', Dq B (m + 1) st' ∧ cl4 (cS b L x3 x4 x5 (.val (orT L)) x7 x8 x9 st) = .ok .nx (cS b L x3 x4 x5 (.val (orT L)) (.val (nI (orO b).length)) (.val (eOrd q.1)) (.val (.int q.2)) st') := by
  have := h.len
  obtain ⟨q, mq, st', d1, e⟩ := c_pickT eMv h.pos (by omega) hd hm
  refine ⟨q, mq, st', d1, ?_⟩
  let E (st : List O) := cS b L x3 x4 x5 (.val (orT L)) x7 x8 x9 st
  have a1 : fVal (fCall F__law_pick (aCons (fVar 0) (aCons (fVar 2) aNil))) (E st) = .ok (eMv q) (E st') := r_call (fa := aCons (fVar 0) (aCons (fVar 2) aNil)) (ts := [.loc 0, oT L]) rfl (e _ _)
  have a2 : fLenSetN (iLst (fVar 6)) (E st') = .ok (nI (orO b).length) (E st') := by
    have e1 : iLst (fVar 6) (E st') = .ok ((L.map (·.1)).map eOrd) (E st') := rfl
    rw [x_fLenSetN, e1, Rbind_ok, if_pos ?_, h.many rfl]
    · rfl
    rw [Bool.and_eq_true, decide_eq_true_eq, List.length_map, List.length_map]
    refine ⟨by omega, List.all_eq_true.mpr fun t mt => ?_⟩
    obtain ⟨o, _, rfl⟩ := List.mem_map.mp mt
    exact nkOk_ord o
  have a3 : fTup (aCons (fVal (fCall F__law_pick (aCons (fVar 0) (aCons (fVar 2) aNil)))) (aCons (fLenSetN (iLst (fVar 6))) aNil)) (E st) = .ok (.tup [eMv q, nI (orO b).length]) (E st') := r_tup (r_two a1 a2) (Nat.le_of_ble_eq_true rfl)
  change sAsg _ _ (E st) = _
  rw [x_sAsg, a3, Rbind_ok]
  rfl
abbrev reT (L : List El) (q : El) : T := .lst ((L.map fun x => reach x q).map eMv)
theorem c5 {q : El} (mq : q ∈ L) : cl5 (cS b L x3 x4 x5 x6 x7 (.val (eOrd q.1)) (.val (.int q.2)) st) = .ok .nx (cS b L x3 (.val (reT L q)) x5 x6 x7 (.val (eOrd q.1)) (.val (.int q.2)) st) := by
  let E := cS b L x3 x4 x5 x6 x7 (.val (eOrd q.1)) (.val (.int q.2)) st
  have oq := h.ok mq
  have a2 : aLc (iAny (fVar 2)) p2 tTrue (fTup (aCons (fVal (fCall F__law_after (aCons (fVar 10) (aCons (fVar 8) aNil)))) (aCons (fBin opMulA (fVar 11) (fVar 9)) aNil))) [10, 11] E = .ok (L.map fun x => eMv (reach x q)) E := mapS (l := L) (en := eMv) _ rfl fun m mm => ⟨⟨[.val (.loc 0), .val (hdT b), .val (oT L), x3, x4, x5, x6, x7, .val (eOrd q.1), .val (.int q.2), .val (eOrd m.1), .val (.int m.2), .un], [], st⟩, rfl, r_tup (r_two (a := eOrd (mvd 0 m.1 q.1)) (r_call (fa := aCons (fVar 10) (aCons (fVar 8) aNil)) (ts := [eOrd m.1, eOrd q.1]) rfl (c_after (fun (k : Nat) => T.int (k : Int)) 0 (row := m.1) (fun k mk => by rw [(h.ok mm).1.len]; exact oq.1.lt k mk) _)) (r_bin (x := .int m.2) (y := .int q.2) rfl rfl (mul_sg (h.ok mm).2 oq.2))) (Nat.le_of_ble_eq_true rfl), rfl, rfl, rfl⟩
  refine sSet_ok (i := 4) (s := E) (s1 := E) (t := reT L q) ((r_lst a2).trans ?_)
  show R.ok (T.lst (L.map fun x => eMv (reach x q))) E = R.ok (T.lst ((L.map fun x => reach x q).map eMv)) E
  rw [List.map_map]
  rfl
theorem c6 {q : El} (mq : q ∈ L) : cl6 (cS b L x3 (.val (reT L q)) x5 x6 x7 x8 x9 st) = .ok .nx (cS b L x3 (.val (reT L q)) x5 x6 x7 x8 x9 st) := by
  let E := cS b L x3 (.val (reT L q)) x5 x6 x7 x8 x9 st
  have a2 : aLc (iLst (fVar 4)) (pName 12) (tE (fBin opNotIn (fVar 12) (fVar 2))) (fVar 12) [12] E = .ok [] E := by
    refine Eq.trans (b := R.ok (((L.map fun x => reach x q).filter fun _ => false).map eMv) E) (filS (it := (iLst (fVar 4))) (p := (pName 12)) (c := (tE (fBin opNotIn (fVar 12) (fVar 2)))) (f := (fVar 12)) (s := E) (vs := [12]) (l := L.map fun x => reach x q) (en := eMv) (fun _ => false) eMv rfl fun o mo => ⟨⟨[.val (.loc 0), .val (hdT b), .val (oT L), x3, .val (reT L q), x5, x6, x7, x8, x9, .un, .un, .val (eMv o)], [], st⟩, rfl, ?_, fun z => absurd z Bool.false_ne_true, rfl, rfl, rfl⟩) (by rw [fil_none])
    obtain ⟨x, mx, rfl⟩ := List.mem_map.mp mo
    have mi : reach x q ∈ L := (h.mem _).mpr (gp_mul h.bo ((h.mem _).mp mx) ((h.mem _).mp mq))
    refine r_tE (r_bin (x := eMv (reach x q)) (y := oT L) rfl rfl ?_)
    rw [notin_mvT, decide_eq_true mi]
    rfl
  exact sIf_f (r_tE (r_bin (x := .lst []) (y := .lst []) (r_lst a2) rfl ne_nils)) rfl
theorem c7 : cl7 (cS b L x3 x4 (.val (eOrd (List.range b.slots.length))) x6 (.val (nI (orO b).length)) x8 x9 st) = .ok .nx (cS b L x3 x4 (.val (eOrd (List.range b.slots.length))) x6 (.val (nI (orO b).length)) x8 x9 st) := by
  let E := cS b L x3 x4 (.val (eOrd (List.range b.slots.length))) x6 (.val (nI (orO b).length)) x8 x9 st
  have fw := or_few h.bo
  have p4 : (48 : Nat) < 2 ^ 400 := by decide
  have a0 : tE (fBin opIn (fTup (aCons (fVar 5) (aCons (fUn opNeg (fC (.int 1))) aNil))) (fVar 2)) E = .ok (decide ((List.range b.slots.length, (-1 : Int)) ∈ L)) E := by
    refine r_tE (r_bin (x := eMv (List.range b.slots.length, -1)) (y := oT L) (r_tup (r_two (f := fVar 5) (h := fUn opNeg (fC (.int 1))) (s1 := E) rfl rfl) (Nat.le_of_ble_eq_true rfl)) rfl ?_)
    rw [in_mvT]
  have a1 : fIf (tE (fBin opIn (fTup (aCons (fVar 5) (aCons (fUn opNeg (fC (.int 1))) aNil))) (fVar 2))) (fBin opMulA (fC (.int 2)) (fVar 7)) (fVar 7) E = .ok (nI L.length) E := by
    rw [x_fIf, a0, Rbind_ok, h.len2]
    by_cases c : (List.range b.slots.length, (-1 : Int)) ∈ L
    · rw [decide_eq_true c, if_pos rfl, if_pos c]
      refine r_bin (x := .int 2) (y := nI (orO b).length) rfl rfl ?_
      refine (mulA (i := 2) (j := ((orO b).length : Int)) (by omega) (by omega)).trans ?_
      show some (T.int (2 * ((orO b).length : Int))) = some (T.int ((2 * (orO b).length : Nat) : Int))
      congr 2
    · rw [decide_eq_false c, if_neg Bool.false_ne_true, if_neg c]
      rfl
  have a2 : fCl clLen (aCons (fVar 2) aNil) E = .ok (nI L.length) E := by
    show R.ok (T.int ((L.map eMv).length : Nat)) E = _
    rw [List.length_map]
    rfl
  have a3 : fVal (fCall F__law_all (aCons (fLst (fClF clLst (aCons (fVar 1) aNil))) aNil)) E = .ok (nI (allF [] b.slots 1)) E := r_call (fa := aCons (fLst (fClF clLst (aCons (fVar 1) aNil))) aNil) (ts := [.lst (b.slots.map eSl)]) rfl (c_all h.bo.few _)
  have a4 : fBin opMod (fVal (fCall F__law_all (aCons (fLst (fClF clLst (aCons (fVar 1) aNil))) aNil))) (fVar 7) E = .ok (.int 0) E := by
    refine r_bin (y := nI (orO b).length) a3 rfl ?_
    refine (modI (by omega)).trans ?_
    rw [Int.emod_eq_zero_of_dvd (Int.natCast_dvd_natCast.mpr (or_dvd h.bo))]
  exact sIf_f (r_or2 (r_tE (r_bin a2 a1 (ne_same (x := nI L.length) rfl (Nat.zero_le 100)))) (r_tE (r_bin a4 (h := fC (.int 0)) (y := .int 0) rfl (ne_same (x := .int 0) rfl (Nat.zero_le 100))))) rfl
theorem c8 : cl8 (cS b L x3 x4 x5 x6 x7 x8 x9 st) = .ok (.ret (.val (.bl true))) (cS b L x3 x4 x5 x6 x7 x8 x9 st) := by
  let E := cS b L x3 x4 x5 x6 x7 x8 x9 st
  have ln := h.len
  have a1 : aSortSetM (iTp (fVar 2)) E = .ok (L.map eMv) E := by
    have e1 : iTp (fVar 2) E = .ok (L.map eMv) E := rfl
    rw [x_aSortSetM, e1, Rbind_ok, if_pos ?_, h.sorted]
    rw [Bool.and_eq_true, Bool.and_eq_true, Bool.and_eq_true, decide_eq_true_eq, List.length_map]
    refine ⟨⟨⟨by omega, List.all_eq_true.mpr fun t mt => ?_⟩, strict_mv h.nd⟩, ?_⟩
    · obtain ⟨o, _, rfl⟩ := List.mem_map.mp mt
      exact nkOk_mv o
    · rw [srtMx_mv (by omega), Bool.or_true]
  have cl : (T.lst (L.map eMv)).cl = true := by rw [cl_lst]; exact cls_map fun a _ => cl_eMv a
  have a2 : fBin opEq (fLst (fClF clLst (aCons (fVar 2) aNil))) (fLst (aSortSetM (iTp (fVar 2)))) E = .ok (.bl true) E := r_bin (x := .lst (L.map eMv)) (y := .lst (L.map eMv)) (s1 := E) rfl (r_lst a1) (eq_self cl (Nat.le_trans (dep_lst (dep_map fun m _ => dep_eMv m)) (by omega)))
  refine r_ret ?_
  rw [x_fAnd, a2, Rbind_ok]
  rfl
theorem c_closed {m : Nat} (hd : Dq B m st) (hm : m ≤ 1000000) : ∃ st', Dq B (m + 1) st' ∧ ∀ env lo, callF F__law_closed [.loc 0, hdT b, oT L] ⟨env, lo, st⟩ = .ok (.val (.bl true)) ⟨env, lo, st'⟩ := by
  obtain ⟨q, mq, st', d1, e4⟩ := c4 h (x3 := .val (unT L)) (x4 := .un) (x5 := .val (eOrd (List.range b.slots.length))) (x7 := .un) (x8 := .un) (x9 := .un) hd hm
  refine ⟨st', d1, fun env lo => ?_⟩
  refine callF_gv (s := ⟨env, lo, st⟩) (gv_ret (np := 3) (nn := 13) (f := v__law_closed) rfl (s := cS b L (.val (unT L)) (.val (reT L q)) (.val (eOrd (List.range b.slots.length))) (.val (orT L)) (.val (nI (orO b).length)) (.val (eOrd q.1)) (.val (.int q.2)) st') ?_)
  rw [closed_eq]
  exact seq_ok (c0 h.bo.few) (seq_ok (c1 h) (seq_ok (c2 h) (seq_ok (c3 h) (seq_ok e4 (seq_ok (c5 h mq) (seq_ok (c6 h mq) (seq_ok (c7 h) (c8 h))))))))
end
end L2.Z.D
set_option Elab.async false
set_option linter.all false
set_option maxRecDepth 100000
set_option maxHeartbeats 1000000
set_option exponentiation.threshold 500
namespace L2.Z.D
open PySem PySem.Spec PyProof.Rows
variable {B : List O}
theorem th_ndT : thL.Nodup := by
  have := th_nd
  rw [← th_c] at this
  exact List.Pairwise.of_map shC (fun _ _ ne e => ne (congrArg shC e)) this
theorem th_ok : (thL.all fun t => okE t && (toD t).showable && decide ((toD t).depth ≤ 2)) = true := by decide +kernel
theorem th_each {x : T} (h : x ∈ thL) : okE x = true ∧ (toD x).showable = true ∧ (toD x).depth ≤ 2 := by
  have := List.all_eq_true.mp th_ok x h
  simp only [Bool.and_eq_true, decide_eq_true_eq] at this
  exact ⟨this.1.1, this.1.2, this.2⟩
theorem jn_len : ∀ l : List (List Nat), (∀ x ∈ l, x.length ≤ 31) → (jnC l).length ≤ 33 * l.length
  | [], _ => Nat.le_refl _
  | [x], h => by
    have := h x (List.mem_cons_self ..)
    show x.length ≤ 33 * 1
    omega
  | x :: y :: r, h => by
    have h1 := h x (List.mem_cons_self ..)
    have h2 := jn_len (y :: r) fun z m => h z (List.mem_cons_of_mem _ m)
    show (x ++ ([44, 32] ++ jnC (y :: r))).length ≤ _
    rw [List.length_append, List.length_append, List.length_cons]
    rw [List.length_cons] at h2 ⊢
    simp only [List.length_cons, List.length_nil]
    omega
theorem shows_row {l : List T} (hl : l.length ≤ 4) (h : ∀ x ∈ l, x ∈ thL) : shows (.tup l) := by
  refine ⟨rfl, ?_, ?_, ?_, ?_⟩
  · rw [okE]
    induction l with
    | nil => rfl
    | cons x l ih =>
      rw [okEs, (th_each (h x (List.mem_cons_self ..))).1, ih (by rw [List.length_cons] at hl; omega) fun y m => h y (List.mem_cons_of_mem _ m)]
      rfl
  · rw [toD, PyData.showable, toDs_map]
    clear hl
    induction l with
    | nil => rfl
    | cons x l ih =>
      rw [List.map_cons, PyData.showableAll, (th_each (h x (List.mem_cons_self ..))).2.1, ih fun y m => h y (List.mem_cons_of_mem _ m)]
      rfl
  · rw [toD, PyData.depth, toDs_map]
    have : PyData.depthAll (l.map toD) ≤ 2 := by
      clear hl
      induction l with
      | nil => decide
      | cons x l ih =>
        rw [List.map_cons, PyData.depthAll]
        exact Nat.max_le.mpr ⟨(th_each (h x (List.mem_cons_self ..))).2.2, ih fun y m => h y (List.mem_cons_of_mem _ m)⟩
    omega
  · rw [toD, PyData.shown, toDs_map, shAll_map, List.map_map]
    unfold tupleText
    have e : ∀ z : Str, z.length = z.cps.toList.length := fun z => by rw [Array.length_toList]; rfl
    have tl : ∀ c : Bool, (Str.ofString (if c = true then ",)" else ")")).cps.toList.length ≤ 2 := by decide +kernel
    have tl := tl ((l.map (PyData.shown ∘ toD)).length == 1)
    generalize Str.ofString (if ((l.map (PyData.shown ∘ toD)).length == 1) = true then ",)" else ")") = t at tl ⊢
    rw [e, str_app, str_app, join_c, List.map_map, List.length_append, List.length_append]
    have o1 : (Str.ofString "(").cps.toList.length = 1 := by decide +kernel
    have := jn_len (l.map ((fun z : Str => z.cps.toList) ∘ PyData.shown ∘ toD)) fun x m => by
      obtain ⟨y, my, rfl⟩ := List.mem_map.mp m
      exact th_lens _ (th_mem (h y my))
    rw [List.length_map] at this
    omega
abbrev rowT (l : List T) : T := .str (toD (.tup l)).shown
theorem repr_row {f : Ev} {s s1 : S} {l : List T} (hf : f s = .ok (.tup l) s1) (hl : l.length ≤ 4) (h : ∀ x ∈ l, x ∈ thL) : fCl clReprV (aCons f aNil) s = .ok (rowT l) s1 := r_cl (r_one hf) (if_pos (shows_row hl h))
theorem c_movedT {row : List T} {o : List Nat} (h : ∀ k ∈ o, k < row.length) (s : S) : callF F_moved [.tup row, eOrd o] s = .ok (.val (.tup (mvd .non row o))) s := by
  have := c_moved (fun t : T => t) .non h s
  rwa [List.map_id', List.map_id'] at this
theorem mvd_all {row : List T} {o : List Nat} (h : ∀ k ∈ o, k < row.length) {p : T → Prop} (hp : ∀ x ∈ row, p x) : ∀ x ∈ mvd T.non row o, p x := fun x m => by
  unfold mvd at m
  obtain ⟨k, mk, rfl⟩ := List.mem_map.mp m
  exact hp _ (List.mem_of_getElem? (getD_some (d := T.non) (h k mk)))
abbrev tbT : Sv := (sExpr (fMut muApp (pOwn 4) (aCons (fMut muPopAt (pOwn 3) (aCons (fVal (fCall F__law_draw (aCons (fVar 0) (aCons (fLenP (pOwn 3)) aNil)))) aNil)) aNil)))
abbrev tS (n : Nat) (x2 : Slot) (left found : List T) (st : List O) : S := ⟨[.val (.loc 0), .val (nI n), x2, .own 1, .own 0], [.lst found, .lst left], st⟩
theorem perm_eraseI {α : Type} : ∀ {l : List α} {i : Nat} {x : α}, l[i]? = some x → l.Perm (x :: l.eraseIdx i)
  | [], _, _, h => by cases h
  | y :: l, 0, x, h => by
    have : y = x := Option.some.inj h
    rw [this]
    exact List.Perm.refl _
  | y :: l, i + 1, x, h => ((perm_eraseI (l := l) (i := i) h).cons y).trans (List.Perm.swap ..)
theorem t_step {n : Nat} {x2 : Slot} {left found : List T} {m : Nat} {st : List O} (hd : Dq B m st) (hm : m ≤ 1000000) (h0 : 0 < left.length) (h1 : left.length ≤ 12) (h2 : found.length ≤ 12) :
    ∃ (x : T) (left' : List T) (st' : List O), left.Perm (x :: left') ∧ Dq B (m + 1) st' ∧ tbT (tS n x2 left found st) = .ok .nx (tS n x2 left' (found ++ [x]) st') := by
  obtain ⟨d, st', dl, d1, e1⟩ := w_draw (s := tS n x2 left found st) (e := fLenP (pOwn 3)) (n := left.length) rfl (s1 := tS n x2 left found st) rfl hd hm h0 (by omega)
  obtain ⟨x, hx⟩ : ∃ x, left[d]? = some x := ⟨_, List.getElem?_eq_getElem dl⟩
  have pm : muPopAt left [nI d] = some (left.eraseIdx d, x) := by
    show (if (0 : Int) ≤ (d : Int) ∧ (d : Int) < 16777216 then (match left[((d : Nat) : Int).toNat]? with | some t => some (left.eraseIdx ((d : Nat) : Int).toNat, t) | none => none) else none) = _
    rw [if_pos ⟨by omega, by omega⟩, Int.toNat_natCast, hx]
  refine ⟨x, left.eraseIdx d, st', ?_, d1, ?_⟩
  · exact perm_eraseI hx
  · have i1 : fMut muPopAt (pOwn 3) (aCons (fVal (fCall F__law_draw (aCons (fVar 0) (aCons (fLenP (pOwn 3)) aNil)))) aNil) (tS n x2 left found st) = .ok x (tS n x2 (left.eraseIdx d) found st') := by
      refine (fMut_ok (op := muPopAt) (fp := pOwn 3) (p := .own 1) (s1 := tS n x2 left found st) (ts0 := left) (ts := left) rfl rfl (r_one e1) rfl pm).trans ?_
      rfl
    refine (app_ok (i := 4) (k := 0) (s := tS n x2 left found st) (t := x) (ts0 := found) (ts := found) rfl rfl i1 rfl (by omega)).trans ?_
    rfl
theorem c_things {n m : Nat} {st : List O} (hd : Dq B m st) (hm : m + 10 ≤ 1000000) (hn : n ≤ 4) :
    ∃ (l : List T) (st' : List O), l.length = n ∧ (∀ x ∈ l, x ∈ thL) ∧ l.Nodup ∧ Dq B (m + 4) st' ∧ ∀ env lo, callF F__law_things [.loc 0, nI n] ⟨env, lo, st⟩ = .ok (.val (.tup l)) ⟨env, lo, st'⟩ := by
  let P : List T → S → Prop := fun ts s => ∃ (x2 : Slot) (left found : List T) (st1 : List O), s = tS n x2 left found st1 ∧ found.length + ts.length = n ∧ (found ++ left).Perm thL ∧ Dq B (m + found.length) st1
  have t12 : thL.length = 12 := rfl
  obtain ⟨s', e, x2, left, found, st1, rfl, hl, pm, d1⟩ := loopF_inv (p := pName 2) (f := tbT) P (by
    rintro t r s ⟨x2, left, found, st1, rfl, hl, pm, d1⟩
    rw [List.length_cons] at hl
    have ll := pm.length_eq
    rw [List.length_append, t12] at ll
    obtain ⟨x, left', st', px, d2, e⟩ := t_step (n := n) (x2 := .val t) (left := left) (found := found) d1 (by omega) (by omega) (by omega) (by omega)
    refine ⟨tS n (.val t) left found st1, .nx, _, rfl, e, .inl rfl, .val t, left', found ++ [x], st', rfl, ?_, ?_, ?_⟩
    · rw [List.length_append, List.length_singleton]
      omega
    · rw [List.append_assoc]
      exact (px.symm.append_left found).trans pm
    · rw [List.length_append, List.length_singleton]
      exact d2) (rngT 0 n) (tS n .un thL [] st) ⟨.un, thL, [], st, rfl, by
      rw [rng_nI, List.length_map, List.length_range]
      exact Nat.zero_add n, List.Perm.refl _, hd⟩
  have hl : found.length = n := hl
  refine ⟨found, st1, hl, fun x mx => pm.mem_iff.mp (List.mem_append_left _ mx), ?_, d1.mono (by omega), fun env lo => ?_⟩
  · exact ((pm.nodup_iff.mpr th_ndT).sublist (List.sublist_append_left found left))
  · refine callF_gv (s := ⟨env, lo, st⟩) (gv_ret (np := 2) (nn := 5) (f := v__law_things) rfl (s := tS n x2 left found st1) ?_)
    have a1 : sPar [3, 4] (anCons (nLst (aLst (aCons (fC .non) (aCons (fC (.str ("a" : Str))) (aCons (fC (.int 7)) (aCons (fTup (aCons (fC (.str ("a" : Str))) (aCons (fC (.str ("b" : Str))) aNil))) (aCons (fC (.str ("" : Str))) (aCons (fTup aNil) (aCons (fBin opPow (fC (.int 10)) (fC (.int 30))) (aCons (fUn opNeg (fC (.int 1))) (aCons (fTup (aCons (fC (.str ("up" : Str))) aNil)) (aCons (fLst (aLst (aCons (fC (.int 0)) aNil))) (aCons fDicS (aCons (fC (.bl true)) aNil)))))))))))))) (anCons (nLst (aLst aNil)) anNil)) (st0 5 [.loc 0, nI n] st) = .ok .nx (tS n .un thL [] st) := by kernel_rfl
    refine seq_ok a1 (seq_ok (s1 := tS n x2 left found st1) ?_ (r_ret rfl))
    have k1 : rngOk (n : Int) := ⟨by omega, by omega⟩
    rw [x_sFor]
    have e1 : iRng1 (aCons (fVar 1) aNil) (tS n .un thL [] st) = .ok (rngT 0 n) (tS n .un thL [] st) := by
      simp [nI, k1]
    rw [e1, Rbind_ok]
    exact e
end L2.Z.D
set_option Elab.async false
set_option linter.all false
set_option maxRecDepth 100000
set_option maxHeartbeats 1000000
set_option exponentiation.threshold 500
namespace L2.Z.D
open PySem PySem.Spec PyProof.Rows
variable {B : List O}
abbrev p11 : Pat := (pTup 2 (psCons (pName 11) (psCons (pName 12) psNil)))
noncomputable abbrev mr0 : Sv := (sSet 3 (fVal (fCall F__law_things (aCons (fVar 0) (aCons (fCl clLen (aCons (fVar 1) aNil)) aNil)))))
noncomputable abbrev mr1 : Sv := (sSet 4 (fCl clReprV (aCons (fVar 3) aNil)))
noncomputable abbrev mr2 : Sv := (sAsg (pTup 2 (psCons (pTup 2 (psCons (pName 6) (psCons (pName 7) psNil))) (psCons (pTup 2 (psCons (pName 8) (psCons (pName 9) psNil))) psNil))) (fTup (aCons (fVal (fCall F__law_pick (aCons (fVar 0) (aCons (fVar 2) aNil)))) (aCons (fVal (fCall F__law_pick (aCons (fVar 0) (aCons (fVar 2) aNil)))) aNil))))
noncomputable abbrev mr3 : Sv := (sSet 5 (fVal (fCall F_moved (aCons (fVar 3) (aCons (fVar 6) aNil)))))
noncomputable abbrev mr4 : Sv := (sIf (tOrZ (tE (fBin opNe (fCl clReprV (aCons (fVar 5) aNil)) (fCl clReprV (aCons (fTupQ (aLc (iTp (fVar 6)) (pName 10) tTrue (fBin opIx (fVar 3) (fVar 10)) [10])) aNil)))) (tE (fBin opNe (fCl clReprV (aCons (fVal (fCallP [0, 1] F_moved (aCons (fVar 3) (aCons (fVar 6) aNil)))) aNil)) (fCl clReprV (aCons (fVar 5) aNil))))) (sRet (fC (.bl false))) sNx)
noncomputable abbrev mr5 : Sv := (sIf (tOrZ (tE (fBin opNe (fCl clReprV (aCons (fVal (fCall F_moved (aCons (fVar 5) (aCons (fVar 8) aNil)))) aNil)) (fCl clReprV (aCons (fVal (fCall F_moved (aCons (fVar 3) (aCons (fVal (fCall F_moved (aCons (fVar 6) (aCons (fVar 8) aNil)))) aNil)))) aNil)))) (tE (fBin opNe (fCl clReprV (aCons (fVar 3) aNil)) (fVar 4)))) (sRet (fC (.bl false))) sNx)
noncomputable abbrev mr6 : Sv := (sIf (tE (fBin opNe (fCl clReprV (aCons (fVal (fCall F_moved (aCons (fVar 5) (aCons (fVal (fCall F__law_back (aCons (fVar 6) aNil))) aNil)))) aNil)) (fVar 4))) (sRet (fC (.bl false))) sNx)
noncomputable abbrev mr7 : Sv := (sRet (fBin opEq (fLenSet (aLc (iTp (fVar 2)) p11 tTrue (fCl clReprV (aCons (fVal (fCall F_moved (aCons (fVar 3) (aCons (fVar 11) aNil)))) aNil)) [11, 12])) (fLenSetN (aLc (iTp (fVar 2)) p11 tTrue (fVar 11) [11, 12]))))
theorem moved_eq : v__law_moved_right = sSeq mr0 (sSeq mr1 (sSeq mr2 (sSeq mr3 (sSeq mr4 (sSeq mr5 (sSeq mr6 mr7)))))) := rfl
abbrev mS (b : Bx) (L : List El) (x3 x4 x5 x6 x7 x8 x9 : Slot) (st : List O) : S := ⟨[.val (.loc 0), .val (hdT b), .val (oT L), x3, x4, x5, x6, x7, x8, x9, .un, .un, .un], [], st⟩
abbrev mvl (l : List T) (o : List Nat) : List T := mvd .non l o
section
variable {sp : List Str} {b : Bx} {L : List El} (h : Gp sp b L)
include h
variable {x3 x4 x5 x6 x7 x8 x9 : Slot} {st : List O}
theorem m0 {m : Nat} (hd : Dq B m st) (hm : m + 10 ≤ 1000000) : ∃ (l : List T) (st' : List O), l.length = b.slots.length ∧ (∀ x ∈ l, x ∈ thL) ∧ l.Nodup ∧ Dq B (m + 4) st' ∧ mr0 (mS b L x3 x4 x5 x6 x7 x8 x9 st) = .ok .nx (mS b L (.val (.tup l)) x4 x5 x6 x7 x8 x9 st') := by
  obtain ⟨l, st', h1, h2, h3, d1, e⟩ := c_things (n := b.slots.length) hd hm h.bo.few
  refine ⟨l, st', h1, h2, h3, d1, sSet_ok (i := 3) (s := mS b L x3 x4 x5 x6 x7 x8 x9 st) (s1 := mS b L x3 x4 x5 x6 x7 x8 x9 st') (t := .tup l) (r_call (ts := [.loc 0, nI b.slots.length]) (r_two (f := fVar 0) (s1 := mS b L x3 x4 x5 x6 x7 x8 x9 st) rfl (r_cl rfl ?_)) (e _ _))⟩
  show some (T.int ((b.slots.map eSl).length : Nat)) = _
  rw [List.length_map]
  rfl
theorem m2 {m : Nat} (hd : Dq B m st) (hm : m + 2 ≤ 1000000) : ∃ p ∈ L, ∃ q ∈ L, ∃ st', Dq B (m + 2) st' ∧ mr2 (mS b L x3 x4 x5 x6 x7 x8 x9 st) = .ok .nx (mS b L x3 x4 x5 (.val (eOrd p.1)) (.val (.int p.2)) (.val (eOrd q.1)) (.val (.int q.2)) st') := by
  have := h.len
  obtain ⟨p, mp, st1, d1, e1⟩ := c_pickT eMv h.pos (by omega) hd (by omega)
  obtain ⟨q, mq, st2, d2, e2⟩ := c_pickT eMv h.pos (by omega) d1 (by omega)
  refine ⟨p, mp, q, mq, st2, d2, ?_⟩
  let E (st : List O) := mS b L x3 x4 x5 x6 x7 x8 x9 st
  have a1 : fVal (fCall F__law_pick (aCons (fVar 0) (aCons (fVar 2) aNil))) (E st) = .ok (eMv p) (E st1) := r_call (fa := aCons (fVar 0) (aCons (fVar 2) aNil)) (ts := [.loc 0, oT L]) rfl (e1 _ _)
  have a2 : fVal (fCall F__law_pick (aCons (fVar 0) (aCons (fVar 2) aNil))) (E st1) = .ok (eMv q) (E st2) := r_call (fa := aCons (fVar 0) (aCons (fVar 2) aNil)) (ts := [.loc 0, oT L]) rfl (e2 _ _)
  have a3 : fTup (aCons (fVal (fCall F__law_pick (aCons (fVar 0) (aCons (fVar 2) aNil)))) (aCons (fVal (fCall F__law_pick (aCons (fVar 0) (aCons (fVar 2) aNil)))) aNil)) (E st) = .ok (.tup [eMv p, eMv q]) (E st2) := r_tup (r_two a1 a2) (Nat.le_of_ble_eq_true rfl)
  change sAsg _ _ (E st) = _
  rw [x_sAsg, a3, Rbind_ok]
  rfl
variable {l : List T} (hl : l.length = b.slots.length) (ht : ∀ x ∈ l, x ∈ thL)
include hl ht
theorem in_l {p : El} (mp : p ∈ L) : ∀ k ∈ p.1, k < l.length := fun k mk => by
  rw [hl]
  exact (h.ok mp).1.lt k mk
theorem mvl_ok {p : El} (mp : p ∈ L) : (mvl l p.1).length = b.slots.length ∧ ∀ x ∈ mvl l p.1, x ∈ thL := ⟨by
  unfold mvl mvd
  rw [List.length_map]
  exact (h.ok mp).1.len, mvd_all (in_l h hl ht mp) ht⟩
theorem m1 : mr1 (mS b L (.val (.tup l)) x4 x5 x6 x7 x8 x9 st) = .ok .nx (mS b L (.val (.tup l)) (.val (rowT l)) x5 x6 x7 x8 x9 st) :=
  sSet_ok (i := 4) (s := mS b L (.val (.tup l)) x4 x5 x6 x7 x8 x9 st) (s1 := mS b L (.val (.tup l)) x4 x5 x6 x7 x8 x9 st) (t := rowT l) (repr_row rfl (by rw [hl]; exact h.bo.few) ht)
theorem m3 {p : El} (mp : p ∈ L) : mr3 (mS b L (.val (.tup l)) x4 x5 (.val (eOrd p.1)) x7 x8 x9 st) = .ok .nx (mS b L (.val (.tup l)) x4 (.val (.tup (mvl l p.1))) (.val (eOrd p.1)) x7 x8 x9 st) :=
  sSet_ok (i := 5) (s := mS b L (.val (.tup l)) x4 x5 (.val (eOrd p.1)) x7 x8 x9 st) (s1 := mS b L (.val (.tup l)) x4 x5 (.val (eOrd p.1)) x7 x8 x9 st) (t := .tup (mvl l p.1)) (r_call (fa := aCons (fVar 3) (aCons (fVar 6) aNil)) (ts := [.tup l, eOrd p.1]) rfl (c_movedT (in_l h hl ht mp) _))
theorem m4 {p : El} (mp : p ∈ L) : mr4 (mS b L (.val (.tup l)) x4 (.val (.tup (mvl l p.1))) (.val (eOrd p.1)) x7 x8 x9 st) = .ok .nx (mS b L (.val (.tup l)) x4 (.val (.tup (mvl l p.1))) (.val (eOrd p.1)) x7 x8 x9 st) := by
  let E := mS b L (.val (.tup l)) x4 (.val (.tup (mvl l p.1))) (.val (eOrd p.1)) x7 x8 x9 st
  obtain ⟨l1, t1⟩ := mvl_ok h hl ht mp
  have f4 : (mvl l p.1).length ≤ 4 := by rw [l1]; exact h.bo.few
  have r5 : fCl clReprV (aCons (fVar 5) aNil) E = .ok (rowT (mvl l p.1)) E := repr_row rfl f4 t1
  have lc : aLc (iTp (fVar 6)) (pName 10) tTrue (fBin opIx (fVar 3) (fVar 10)) [10] E = .ok (mvl l p.1) E :=
    mapS (it := iTp (fVar 6)) (p := pName 10) (f := fBin opIx (fVar 3) (fVar 10)) (s := E) (vs := [10]) (l := p.1) (en := nI) (fun k => l.getD k .non) rfl fun k mk => ⟨⟨[.val (.loc 0), .val (hdT b), .val (oT L), .val (.tup l), x4, .val (.tup (mvl l p.1)), .val (eOrd p.1), x7, x8, x9, .val (nI k), .un, .un], [], st⟩, rfl, r_bin (x := .tup l) (y := nI k) rfl rfl (x_ixN (getD_some (d := T.non) (in_l h hl ht mp k mk))), rfl, rfl, rfl⟩
  have q2 : fTupQ (aLc (iTp (fVar 6)) (pName 10) tTrue (fBin opIx (fVar 3) (fVar 10)) [10]) E = .ok (.tup (mvl l p.1)) E := by
    rw [x_fTupQ, lc, Rbind_ok]
  have a1 : tE (fBin opNe (fCl clReprV (aCons (fVar 5) aNil)) (fCl clReprV (aCons (fTupQ (aLc (iTp (fVar 6)) (pName 10) tTrue (fBin opIx (fVar 3) (fVar 10)) [10])) aNil))) E = .ok false E := r_tE (r_bin r5 (repr_row q2 f4 t1) (ne_str rfl))
  have q3 : fVal (fCallP [0, 1] F_moved (aCons (fVar 3) (aCons (fVar 6) aNil))) E = .ok (.tup (mvl l p.1)) E := by
    have := r_call (F := F_moved) (fa := aCons (fVar 3) (aCons (fVar 6) aNil)) (ts := [.tup l, eOrd p.1]) (s := E) (s1 := E) rfl (c_movedT (in_l h hl ht mp) _)
    exact this
  exact sIf_f (r_or2 a1 (r_tE (r_bin (repr_row q3 f4 t1) r5 (ne_str rfl)))) rfl
theorem m5 {p q : El} (mp : p ∈ L) (mq : q ∈ L) : mr5 (mS b L (.val (.tup l)) (.val (rowT l)) (.val (.tup (mvl l p.1))) (.val (eOrd p.1)) x7 (.val (eOrd q.1)) x9 st) = .ok .nx (mS b L (.val (.tup l)) (.val (rowT l)) (.val (.tup (mvl l p.1))) (.val (eOrd p.1)) x7 (.val (eOrd q.1)) x9 st) := by
  let E := mS b L (.val (.tup l)) (.val (rowT l)) (.val (.tup (mvl l p.1))) (.val (eOrd p.1)) x7 (.val (eOrd q.1)) x9 st
  obtain ⟨l1, t1⟩ := mvl_ok h hl ht mp
  have f0 : l.length ≤ 4 := by rw [hl]; exact h.bo.few
  have op := (h.ok mp).1
  have oq := (h.ok mq).1
  have lq : ∀ k ∈ q.1, k < (mvl l p.1).length := fun k mk => by rw [l1]; exact oq.lt k mk
  have mr : reach p q ∈ L := (h.mem _).mpr (gp_mul h.bo ((h.mem _).mp mp) ((h.mem _).mp mq))
  obtain ⟨l2, t2⟩ := mvl_ok h hl ht mr
  have e2 : mvl (mvl l p.1) q.1 = mvl l (mvd 0 p.1 q.1) := mvd_assoc fun k mk => by rw [op.len]; exact oq.lt k mk
  have b1 : fVal (fCall F_moved (aCons (fVar 5) (aCons (fVar 8) aNil))) E = .ok (.tup (mvl (mvl l p.1) q.1)) E := r_call (fa := aCons (fVar 5) (aCons (fVar 8) aNil)) (ts := [.tup (mvl l p.1), eOrd q.1]) rfl (c_movedT lq _)
  have b2 : fVal (fCall F_moved (aCons (fVar 6) (aCons (fVar 8) aNil))) E = .ok (eOrd (mvd 0 p.1 q.1)) E := r_call (fa := aCons (fVar 6) (aCons (fVar 8) aNil)) (ts := [eOrd p.1, eOrd q.1]) rfl (moved_ord op oq _)
  have b3 : fVal (fCall F_moved (aCons (fVar 3) (aCons (fVal (fCall F_moved (aCons (fVar 6) (aCons (fVar 8) aNil)))) aNil))) E = .ok (.tup (mvl l (mvd 0 p.1 q.1))) E := r_call (r_two (f := fVar 3) (a := .tup l) (s1 := E) rfl b2) (c_movedT (in_l h hl ht mr) _)
  rw [e2] at b1
  have f2 : (mvl l (mvd 0 p.1 q.1)).length ≤ 4 := Nat.le_trans (Nat.le_of_eq l2) h.bo.few
  have a1 : tE (fBin opNe (fCl clReprV (aCons (fVal (fCall F_moved (aCons (fVar 5) (aCons (fVar 8) aNil)))) aNil)) (fCl clReprV (aCons (fVal (fCall F_moved (aCons (fVar 3) (aCons (fVal (fCall F_moved (aCons (fVar 6) (aCons (fVar 8) aNil)))) aNil)))) aNil))) E = .ok false E := r_tE (r_bin (repr_row b1 f2 t2) (repr_row b3 f2 t2) (ne_str rfl))
  have a2 : tE (fBin opNe (fCl clReprV (aCons (fVar 3) aNil)) (fVar 4)) E = .ok false E := r_tE (r_bin (x := rowT l) (y := rowT l) (repr_row rfl f0 ht) rfl (ne_str rfl))
  exact sIf_f (r_or2 a1 a2) rfl
theorem m6 {p : El} (mp : p ∈ L) : mr6 (mS b L (.val (.tup l)) (.val (rowT l)) (.val (.tup (mvl l p.1))) (.val (eOrd p.1)) x7 x8 x9 st) = .ok .nx (mS b L (.val (.tup l)) (.val (rowT l)) (.val (.tup (mvl l p.1))) (.val (eOrd p.1)) x7 x8 x9 st) := by
  let E := mS b L (.val (.tup l)) (.val (rowT l)) (.val (.tup (mvl l p.1))) (.val (eOrd p.1)) x7 x8 x9 st
  obtain ⟨l1, t1⟩ := mvl_ok h hl ht mp
  have f0 : l.length ≤ 4 := by rw [hl]; exact h.bo.few
  have op := (h.ok mp).1
  have mi : invE p ∈ L := (h.mem _).mpr (gp_inv h.bo ((h.mem _).mp mp))
  have oi := (h.ok mi).1
  have li : ∀ k ∈ invO p.1, k < (mvl l p.1).length := fun k mk => by rw [l1]; exact oi.lt k mk
  have b0 : fVal (fCall F__law_back (aCons (fVar 6) aNil)) E = .ok (eOrd (invO p.1)) E := r_call (fa := aCons (fVar 6) aNil) (ts := [eOrd p.1]) rfl (c_back op h.bo.few _)
  have b1 : fVal (fCall F_moved (aCons (fVar 5) (aCons (fVal (fCall F__law_back (aCons (fVar 6) aNil))) aNil))) E = .ok (.tup (mvl (mvl l p.1) (invO p.1))) E := r_call (r_two (f := fVar 5) (a := .tup (mvl l p.1)) (s1 := E) rfl b0) (c_movedT li _)
  have e2 : mvl (mvl l p.1) (invO p.1) = l := mvd_inv (by rw [hl, op.len]) (fun k mk => by rw [op.len]; exact op.lt k mk) op.nd
  rw [e2] at b1
  exact sIf_f (r_tE (r_bin (x := rowT l) (y := rowT l) (repr_row b1 f0 ht) rfl (ne_str rfl))) rfl
theorem m7 (hn : l.Nodup) : mr7 (mS b L (.val (.tup l)) x4 x5 x6 x7 x8 x9 st) = .ok (.ret (.val (.bl true))) (mS b L (.val (.tup l)) x4 x5 x6 x7 x8 x9 st) := by
  let E := mS b L (.val (.tup l)) x4 x5 x6 x7 x8 x9 st
  have ln := h.len
  obtain ⟨tx, etx⟩ : ∃ tx : List Nat → Str, tx = fun o => (toD (.tup (mvl l o))).shown := ⟨_, rfl⟩
  have lc : aLc (iTp (fVar 2)) p11 tTrue (fCl clReprV (aCons (fVal (fCall F_moved (aCons (fVar 3) (aCons (fVar 11) aNil)))) aNil)) [11, 12] E = .ok (L.map fun m => T.str (tx m.1)) E :=
    mapS (it := iTp (fVar 2)) (p := p11) (s := E) (vs := [11, 12]) (l := L) (en := eMv) (fun m => T.str (tx m.1)) rfl fun m mm => by
      obtain ⟨l1, t1⟩ := mvl_ok h hl ht mm
      refine ⟨⟨[.val (.loc 0), .val (hdT b), .val (oT L), .val (.tup l), x4, x5, x6, x7, x8, x9, .un, .val (eOrd m.1), .val (.int m.2)], [], st⟩, rfl, ?_, rfl, rfl, rfl⟩
      rw [etx]
      exact repr_row (r_call (fa := aCons (fVar 3) (aCons (fVar 11) aNil)) (ts := [.tup l, eOrd m.1]) rfl (c_movedT (in_l h hl ht mm) _)) (by rw [l1]; exact h.bo.few) t1
  have es : isStrs (L.map fun m => T.str (tx m.1)) = some (L.map fun m => tx m.1) := by
    have := isStrs_map (L.map fun m => tx m.1)
    rw [List.map_map] at this
    exact this
  have inj : ∀ o ∈ orO b, ∀ o' ∈ orO b, tx o = tx o' → o = o' := fun o mo o' mo' e => by
    obtain ⟨s, ms⟩ := mem_or.mp mo
    obtain ⟨s', ms'⟩ := mem_or.mp mo'
    have m1 : (o, s) ∈ L := (h.mem _).mpr ms
    have m2 : (o', s') ∈ L := (h.mem _).mpr ms'
    obtain ⟨l1, t1⟩ := mvl_ok h hl ht m1
    obtain ⟨l2, t2⟩ := mvl_ok h hl ht m2
    rw [etx] at e
    exact mvd_injO hn (in_l h hl ht m1) (in_l h hl ht m2) (row_inj (l1.trans l2.symm) t1 t2 e)
  have cnt : (ddS (L.map fun m => tx m.1)).length = (orO b).length := by
    rw [← List.length_map (as := orO b) (f := tx)]
    refine (perm_of (ddS_nd _) ?_ fun z => ?_).length_eq
    · refine List.nodup_iff_pairwise_ne.mpr (List.pairwise_map.mpr ?_)
      exact List.Pairwise.imp_of_mem (fun {o o'} mo mo' ne z => ne (inj o mo o' mo' z)) (List.nodup_iff_pairwise_ne.mp (ddO_nd _))
    · rw [ddS_mem]
      constructor
      · intro mz
        obtain ⟨m, mm, rfl⟩ := List.mem_map.mp mz
        exact List.mem_map.mpr ⟨m.1, mem_or.mpr ⟨m.2, (h.mem _).mp mm⟩, rfl⟩
      · intro mz
        obtain ⟨o, mo, rfl⟩ := List.mem_map.mp mz
        obtain ⟨s, ms⟩ := mem_or.mp mo
        exact List.mem_map.mpr ⟨(o, s), (h.mem _).mpr ms, rfl⟩
  have a1 : fLenSet (aLc (iTp (fVar 2)) p11 tTrue (fCl clReprV (aCons (fVal (fCall F_moved (aCons (fVar 3) (aCons (fVar 11) aNil)))) aNil)) [11, 12]) E = .ok (nI (orO b).length) E := by
    rw [x_fLenSet, lc, Rbind_ok, es]
    show (if (L.map fun m => tx m.1).length ≤ 4000 then R.ok (T.int ((ddS (L.map fun m => tx m.1)).length : Nat)) E else .no) = _
    rw [if_pos (by rw [List.length_map]; omega), cnt]
    rfl
  have lo : aLc (iTp (fVar 2)) p11 tTrue (fVar 11) [11, 12] E = .ok (L.map fun m => eOrd m.1) E := mapS (it := iTp (fVar 2)) (p := p11) (f := fVar 11) (s := E) (vs := [11, 12]) (l := L) (en := eMv) (fun m => eOrd m.1) rfl fun m mm => ⟨_, rfl, rfl, rfl, rfl, rfl⟩
  have a2 : fLenSetN (aLc (iTp (fVar 2)) p11 tTrue (fVar 11) [11, 12]) E = .ok (nI (orO b).length) E := by
    rw [x_fLenSetN, lo, Rbind_ok, if_pos ?_, h.many (by rw [List.map_map]; rfl)]
    · rfl
    rw [Bool.and_eq_true, decide_eq_true_eq, List.length_map]
    refine ⟨by omega, List.all_eq_true.mpr fun t mt => ?_⟩
    obtain ⟨o, _, rfl⟩ := List.mem_map.mp mt
    exact nkOk_ord o.1
  exact r_ret (r_bin a1 a2 (eq_self (x := nI (orO b).length) rfl (Nat.zero_le 100)))
omit hl ht in
theorem c_moved_right {m : Nat} (hd : Dq B m st) (hm : m + 20 ≤ 1000000) : ∃ st', Dq B (m + 6) st' ∧ ∀ env lo, callF F__law_moved_right [.loc 0, hdT b, oT L] ⟨env, lo, st⟩ = .ok (.val (.bl true)) ⟨env, lo, st'⟩ := by
  obtain ⟨l, st1, hl, ht, hn, d1, e0⟩ := m0 h (x3 := .un) (x4 := .un) (x5 := .un) (x6 := .un) (x7 := .un) (x8 := .un) (x9 := .un) hd (by omega)
  obtain ⟨p, mp, q, mq, st2, d2, e2⟩ := m2 h (x3 := .val (.tup l)) (x4 := .val (rowT l)) (x5 := .un) (x6 := .un) (x7 := .un) (x8 := .un) (x9 := .un) d1 (by omega)
  refine ⟨st2, d2, fun env lo => ?_⟩
  refine callF_gv (s := ⟨env, lo, st⟩) (gv_ret (np := 3) (nn := 13) (f := v__law_moved_right) rfl (s := mS b L (.val (.tup l)) (.val (rowT l)) (.val (.tup (mvl l p.1))) (.val (eOrd p.1)) (.val (.int p.2)) (.val (eOrd q.1)) (.val (.int q.2)) st2) ?_)
  rw [moved_eq]
  exact seq_ok e0 (seq_ok (m1 h hl ht) (seq_ok e2 (seq_ok (m3 h hl ht mp) (seq_ok (m4 h hl ht mp) (seq_ok (m5 h hl ht mp mq) (seq_ok (m6 h hl ht mp) (m7 h hl ht hn)))))))
end
end L2.Z.D
set_option Elab.async false
set_option linter.all false
set_option maxRecDepth 100000
set_option maxHeartbeats 1000000
set_option exponentiation.threshold 500
namespace L2.Z.D
open PySem PySem.Spec PyProof.Rows
variable {B : List O}
theorem gp_of {sp : List Str} {b : Bx} (bo : BxOk sp b) : ∃ L, Gp sp b L := by
  obtain ⟨L, pL, eL⟩ := perm_map_inv (sortT_perm' ((grp b).map eMv)) (grp b) rfl
  exact ⟨L, bo, pL, eL⟩
theorem inv_inv : ∀ n : Fin 5, ∀ o ∈ seqs n.val n.val, o.Nodup → invO (invO o) = o := by decide +kernel
theorem inv2 {held : List (Str × Str)} {o : List Nat} (h : OrdOk held o) (hf : held.length ≤ 4) : invO (invO o) = o := by
  refine inv_inv ⟨held.length, by omega⟩ o ?_ h.nd
  have := mem_seqs (n := held.length) h.lt
  rw [h.len] at this
  exact this
theorem same_grp {sp : List Str} {b c : Bx} (bo : BxOk sp b) (bc : BxOk sp c) (hs : c.slots = b.slots) (h1 : ∀ m ∈ c.moves, m ∈ grp b) (h2 : ∀ m ∈ b.moves, m ∈ grp c) : sortT ((grp c).map eMv) = sortT ((grp b).map eMv) :=
  sort_mv (perm_of (grp_ok bc).nd (grp_ok bo).nd fun x => ⟨gp_sub bo bc hs h1 x, gp_sub bc bo hs.symm h2 x⟩)
abbrev bS (g : Gr) (k : Nat) (x3 x4 x5 x6 x7 x8 x9 : Slot) (st : List O) : S := ⟨[.val (.loc 0), .val (eGr g), .val (nI k), x3, x4, x5, x6, x7, x8, x9, .un, .un, .un, .un], [], st⟩
noncomputable abbrev br0 : Sv := (sAsg (pTup 3 (psCons (pName 7) (psCons (pName 8) (psCons (pName 9) psNil)))) (fBin opIx (fBin opIx (fVar 1) (fC (.int 1))) (fVar 2)))
noncomputable abbrev br1 : Sv := (sSet 3 (fVal (fCall F_group (aCons (fVar 1) (aCons (fVar 7) aNil)))))
noncomputable abbrev br2 : Sv := (sIf (tOrZ (tE (fBin opNe (fVal (fCall F_slots (aCons (fVar 1) (aCons (fVar 7) aNil)))) (fVar 8))) (tOrZ (tNotZ (tE (fVal (fCall F__law_closed (aCons (fVar 0) (aCons (fVar 8) (aCons (fVar 3) aNil))))))) (tNotZ (tE (fVal (fCall F__law_moved_right (aCons (fVar 0) (aCons (fVar 8) (aCons (fVar 3) aNil))))))))) (sRet (fC (.bl false))) sNx)
noncomputable abbrev br3 : Sv := (sSet 4 (fLst (aLc (iTp (fVar 9)) p11 tTrue (fTup (aCons (fVal (fCall F__law_back (aCons (fVar 11) aNil))) (aCons (fVar 12) aNil))) [11, 12])))
noncomputable abbrev br4 : Sv := (sSet 5 (fLst (aLc (iRng1 (aCons (fC (.int 3)) aNil)) (pName 10) tTrue (fVal (fCall F__law_pick (aCons (fVar 0) (aCons (fVar 3) aNil)))) [10])))
noncomputable abbrev br5 : Sv := (sIf (tE (fBin opNe (fVal (fCall F_group (aCons (fVal (fCall F__law_with (aCons (fVar 1) (aCons (fVar 2) (aCons (fVar 4) aNil))))) (aCons (fVar 7) aNil)))) (fVar 3))) (sRet (fC (.bl false))) sNx)
noncomputable abbrev br6e : Ev := (fLst (fBinF opAddL (fSlA (fVar 5) oNo (oOf (fBin opSub (fC (.int 3)) (fCl clLen (aCons (fVar 9) aNil))))) (fLst (fClF clLst (aCons (fVar 9) aNil)))))
noncomputable abbrev br6 : Sv := (sIf (tE (fBin opNe (fVal (fCall F_group (aCons (fVal (fCall F__law_with (aCons (fVar 1) (aCons (fVar 2) (aCons br6e aNil))))) (aCons (fVar 7) aNil)))) (fVar 3))) (sRet (fC (.bl false))) sNx)
noncomputable abbrev br7 : Sv := (sSet 6 (fVal (fCall F_group (aCons (fVal (fCall F__law_with (aCons (fVar 1) (aCons (fVar 2) (aCons (fVar 5) aNil))))) (aCons (fVar 7) aNil)))))
noncomputable abbrev br8 : Sv := (sIf (tE (fBin opNe (fLst (aLc (iTp (fVar 6)) (pName 13) (tE (fBin opNotIn (fVar 13) (fVar 3))) (fVar 13) [13])) (fLst (aLst aNil)))) (sRet (fC (.bl false))) sNx)
noncomputable abbrev br9 : Sv := (sRet (fBin opEq (fBin opMod (fCl clLen (aCons (fVar 3) aNil)) (fCl clLen (aCons (fVar 6) aNil))) (fC (.int 0))))
theorem box_eq : v__law_box_right = sSeq br0 (sSeq br1 (sSeq br2 (sSeq br3 (sSeq br4 (sSeq br5 (sSeq br6 (sSeq br7 (sSeq br8 br9)))))))) := rfl
theorem binF5 {op : T → T → Option (List T)} {f h : Ev} {s s1 s2 : S} {x y : T} {ts : List T} (h1 : f s = .ok x s1) (h2 : h s1 = .ok y s2) (h3 : op x y = some ts) : fBinF op f h s = .ok ts s2 := by
  unfold fBinF
  rw [h1, Rbind_ok, h2, Rbind_ok, h3]
  rfl
section
variable {g : Gr} (hg : GrOk g) {k : Nat} {b : Bx} (hb : g.boxes[k]? = some b) {L : List El} (h : Gp g.spaces b L)
include hg hb h
variable {x3 x4 x5 x6 x7 x8 x9 : Slot} {st : List O}
abbrev nmT (b : Bx) : Slot := .val (.str b.name)
omit h in
theorem b0 : br0 (bS g k x3 x4 x5 x6 x7 x8 x9 st) = .ok .nx (bS g k x3 x4 x5 x6 (nmT b) (.val (hdT b)) (.val (oT b.moves)) st) := by
  let E := bS g k x3 x4 x5 x6 x7 x8 x9 st
  have ix : ixAt (g.boxes.map eBx) ((k : Nat) : Int) = some (eBx b) := x_ixN (by rw [List.getElem?_map, hb]; rfl)
  have q : fBin opIx (fBin opIx (fVar 1) (fC (.int 1))) (fVar 2) E = .ok (eBx b) E := r_bin (f := fBin opIx (fVar 1) (fC (.int 1))) (h := fVar 2) (x := .tup (g.boxes.map eBx)) (y := nI k) rfl rfl ix
  change sAsg _ _ E = _
  rw [x_sAsg, q, Rbind_ok]
  rfl
theorem b1 : br1 (bS g k x3 x4 x5 x6 (nmT b) x8 x9 st) = .ok .nx (bS g k (.val (oT L)) x4 x5 x6 (nmT b) x8 x9 st) := by
  have e := c_group5 hg (List.mem_of_getElem? hb) (bS g k x3 x4 x5 x6 (nmT b) x8 x9 st)
  rw [h.hs] at e
  exact sSet_ok (i := 3) (s := bS g k x3 x4 x5 x6 (nmT b) x8 x9 st) (s1 := bS g k x3 x4 x5 x6 (nmT b) x8 x9 st) (t := oT L) (r_call (fa := aCons (fVar 1) (aCons (fVar 7) aNil)) (ts := [eGr g, .str b.name]) rfl e)
theorem b2 {m : Nat} (hd : Dq B m st) (hm : m + 30 ≤ 1000000) : ∃ st', Dq B (m + 7) st' ∧ br2 (bS g k (.val (oT L)) x4 x5 x6 (nmT b) (.val (hdT b)) x9 st) = .ok .nx (bS g k (.val (oT L)) x4 x5 x6 (nmT b) (.val (hdT b)) x9 st') := by
  obtain ⟨st1, d1, e1⟩ := c_closed h hd (by omega)
  obtain ⟨st2, d2, e2⟩ := c_moved_right h d1 (by omega)
  refine ⟨st2, d2, ?_⟩
  let E (st : List O) := bS g k (.val (oT L)) x4 x5 x6 (nmT b) (.val (hdT b)) x9 st
  have a1 : tE (fBin opNe (fVal (fCall F_slots (aCons (fVar 1) (aCons (fVar 7) aNil)))) (fVar 8)) (E st) = .ok false (E st) := r_tE (r_bin (x := hdT b) (y := hdT b) (r_call (fa := aCons (fVar 1) (aCons (fVar 7) aNil)) (ts := [eGr g, .str b.name]) rfl (c_slots5 hg (List.mem_of_getElem? hb) _)) rfl (ne_same hd_cl.1 hd_cl.2))
  have a2 : tNotZ (tE (fVal (fCall F__law_closed (aCons (fVar 0) (aCons (fVar 8) (aCons (fVar 3) aNil)))))) (E st) = .ok false (E st1) := r_not (b := true) (r_tE (r_call (fa := aCons (fVar 0) (aCons (fVar 8) (aCons (fVar 3) aNil))) (ts := [.loc 0, hdT b, oT L]) rfl (e1 _ _)))
  have a3 : tNotZ (tE (fVal (fCall F__law_moved_right (aCons (fVar 0) (aCons (fVar 8) (aCons (fVar 3) aNil)))))) (E st1) = .ok false (E st2) := r_not (b := true) (r_tE (r_call (fa := aCons (fVar 0) (aCons (fVar 8) (aCons (fVar 3) aNil))) (ts := [.loc 0, hdT b, oT L]) rfl (e2 _ _)))
  exact sIf_f (r_or2 a1 (r_or2 a2 a3)) rfl
abbrev bkT (b : Bx) : T := .lst ((b.moves.map invE).map eMv)
theorem b3 : br3 (bS g k x3 x4 x5 x6 x7 x8 (.val (oT b.moves)) st) = .ok .nx (bS g k x3 (.val (bkT b)) x5 x6 x7 x8 (.val (oT b.moves)) st) := by
  let E := bS g k x3 x4 x5 x6 x7 x8 (.val (oT b.moves)) st
  have a2 : aLc (iTp (fVar 9)) p11 tTrue (fTup (aCons (fVal (fCall F__law_back (aCons (fVar 11) aNil))) (aCons (fVar 12) aNil))) [11, 12] E = .ok (b.moves.map fun m => eMv (invE m)) E := mapS (it := iTp (fVar 9)) (p := p11) (s := E) (vs := [11, 12]) (l := b.moves) (en := eMv) (fun m => eMv (invE m)) rfl fun m mm => ⟨⟨[.val (.loc 0), .val (eGr g), .val (nI k), x3, x4, x5, x6, x7, x8, .val (oT b.moves), .un, .val (eOrd m.1), .val (.int m.2), .un], [], st⟩, rfl, r_tup (r_two (r_call (fa := aCons (fVar 11) aNil) (ts := [eOrd m.1]) rfl (c_back (h.bo.mv m mm).1 h.bo.few _)) rfl) (Nat.le_of_ble_eq_true rfl), rfl, rfl, rfl⟩
  refine sSet_ok (i := 4) (s := E) (s1 := E) (t := bkT b) ((r_lst a2).trans ?_)
  show R.ok (T.lst (b.moves.map fun m => eMv (invE m))) E = R.ok (T.lst ((b.moves.map invE).map eMv)) E
  rw [List.map_map]
  rfl
abbrev smT (ms : List El) : T := .lst (ms.map eMv)
theorem b4 {m : Nat} (hd : Dq B m st) (hm : m + 10 ≤ 1000000) : ∃ ms st', ms.length = 3 ∧ (∀ x ∈ ms, x ∈ L) ∧ Dq B (m + 3) st' ∧ br4 (bS g k (.val (oT L)) x4 x5 x6 x7 x8 x9 st) = .ok .nx (bS g k (.val (oT L)) x4 (.val (smT ms)) x6 x7 x8 x9 st') := by
  let E (st : List O) := bS g k (.val (oT L)) x4 x5 x6 x7 x8 x9 st
  have ln := h.len
  obtain ⟨ms, st', l3, ok, d1, e⟩ := draws_q (B := B) (it := iRng1 (aCons (fC (.int 3)) aNil)) (p := pName 10) (f := fVal (fCall F__law_pick (aCons (fVar 0) (aCons (fVar 3) aNil)))) (vs := [10]) (s := E st) (s1 := E st) (en := eMv) 1 (fun x => x ∈ L) (ts := [.int 0, .int 1, .int 2]) (m := m) rfl hd fun t mt j st1 dj hj => by
    obtain ⟨x, mx, st2, d2, e2⟩ := c_pickT eMv h.pos (by omega) dj (by simp at hj; omega)
    refine ⟨x, st2, mx, d2, ⟨[.val (.loc 0), .val (eGr g), .val (nI k), .val (oT L), x4, x5, x6, x7, x8, x9, .val t, .un, .un, .un], [], st1⟩, ⟨[.val (.loc 0), .val (eGr g), .val (nI k), .val (oT L), x4, x5, x6, x7, x8, x9, .val t, .un, .un, .un], [], st2⟩, rfl, r_call (fa := aCons (fVar 0) (aCons (fVar 3) aNil)) (ts := [.loc 0, oT L]) rfl (e2 _ _), rfl, rfl, rfl⟩
  refine ⟨ms, st', l3, ok, d1, sSet_ok (i := 5) (s := E st) (s1 := E st') (t := smT ms) (r_lst e)⟩
omit h in
theorem g_with {ms : List El} {L2 : List El} (bc : BxOk g.spaces (withB b ms)) (h2 : Gp g.spaces (withB b ms) L2) {f : Ev} {s1 : S} (h1 : s1.env[1]? = some (.val (eGr g))) (hk : s1.env[2]? = some (.val (nI k))) (h7 : s1.env[7]? = some (nmT b)) (hf : f s1 = .ok (smT ms) s1) :
    fVal (fCall F_group (aCons (fVal (fCall F__law_with (aCons (fVar 1) (aCons (fVar 2) (aCons f aNil))))) (aCons (fVar 7) aNil))) s1 = .ok (oT L2) s1 := by
  have v : ∀ {i : Nat} {t : T}, s1.env[i]? = some (.val t) → fVar i s1 = .ok t s1 := fun {i t} q => by
    unfold fVar
    rw [q]
  have a1 : fVal (fCall F__law_with (aCons (fVar 1) (aCons (fVar 2) (aCons f aNil)))) s1 = .ok (eGr (withG g k (withB b ms))) s1 := r_call (r_cons (v h1) (r_cons (v hk) (r_one hf))) (c_with hg.bx hb ms _)
  have gw := withG_ok hg hb bc rfl
  have mb : withB b ms ∈ (withG g k (withB b ms)).boxes := List.mem_of_getElem? (i := k) (by
    show (g.boxes.set k (withB b ms))[k]? = _
    rw [List.getElem?_set_self (List.getElem?_eq_some_iff.mp hb).1])
  have e := c_group5 gw mb s1
  rw [h2.hs] at e
  exact r_call (r_two a1 (v h7)) e
omit hg hb in
theorem ms_ok {ms : List El} (hl : ms.length ≤ 3) (hm : ∀ m ∈ ms, m ∈ grp b) : BxOk g.spaces (withB b ms) := withB_ok h.bo hl hm
omit hg hb in
theorem o_cl : (oT L).cl = true ∧ (oT L).dep ≤ 100 := ⟨cls_map fun a _ => cl_eMv a, Nat.le_trans (dep_tup (dep_map fun m _ => dep_eMv m)) (by omega)⟩
theorem b5 : br5 (bS g k (.val (oT L)) (.val (bkT b)) x5 x6 (nmT b) x8 x9 st) = .ok .nx (bS g k (.val (oT L)) (.val (bkT b)) x5 x6 (nmT b) x8 x9 st) := by
  have i1 : ∀ m ∈ b.moves.map invE, m ∈ grp b := fun m mm => by
    obtain ⟨x, mx, rfl⟩ := List.mem_map.mp mm
    exact gp_inv h.bo (gp_move h.bo mx)
  have bc := ms_ok h (ms := b.moves.map invE) (by rw [List.length_map]; exact h.bo.moves) i1
  have i2 : ∀ m ∈ b.moves, m ∈ grp (withB b (b.moves.map invE)) := fun m mm => by
    have := gp_inv bc (gp_move bc (List.mem_map.mpr ⟨m, mm, rfl⟩ : invE m ∈ (withB b (b.moves.map invE)).moves))
    have e : invE (invE m) = m := Prod.ext (inv2 (h.bo.mv m mm).1 h.bo.few) rfl
    rwa [e] at this
  have gc : Gp g.spaces (withB b (b.moves.map invE)) L := ⟨bc, h.pl.trans ((perm_of (grp_ok bc).nd (grp_ok h.bo).nd fun x => ⟨gp_sub h.bo bc rfl i1 x, gp_sub bc h.bo rfl i2 x⟩).symm), (same_grp h.bo bc rfl i1 i2).trans h.hs⟩
  exact sIf_f (r_tE (r_bin (x := oT L) (y := oT L) (g_with hg hb bc gc rfl rfl rfl rfl) rfl (ne_same (o_cl h).1 (o_cl h).2))) rfl
theorem b6 {ms : List El} (l3 : ms.length = 3) (hm : ∀ x ∈ ms, x ∈ L) : br6 (bS g k (.val (oT L)) x4 (.val (smT ms)) x6 (nmT b) x8 (.val (oT b.moves)) st) = .ok .nx (bS g k (.val (oT L)) x4 (.val (smT ms)) x6 (nmT b) x8 (.val (oT b.moves)) st) := by
  let E := bS g k (.val (oT L)) x4 (.val (smT ms)) x6 (nmT b) x8 (.val (oT b.moves)) st
  have ml := h.bo.moves
  have i1 : ∀ m ∈ ms.take (3 - b.moves.length) ++ b.moves, m ∈ grp b := fun m mm => by
    rcases List.mem_append.mp mm with q | q
    · exact (h.mem _).mp (hm m (List.mem_of_mem_take q))
    · exact gp_move h.bo q
  have bc := ms_ok h (ms := ms.take (3 - b.moves.length) ++ b.moves) (by rw [List.length_append, List.length_take]; omega) i1
  have i2 : ∀ m ∈ b.moves, m ∈ grp (withB b (ms.take (3 - b.moves.length) ++ b.moves)) := fun m mm => gp_move bc (List.mem_append_right _ mm)
  have gc : Gp g.spaces (withB b (ms.take (3 - b.moves.length) ++ b.moves)) L := ⟨bc, h.pl.trans ((perm_of (grp_ok bc).nd (grp_ok h.bo).nd fun x => ⟨gp_sub h.bo bc rfl i1 x, gp_sub bc h.bo rfl i2 x⟩).symm), (same_grp h.bo bc rfl i1 i2).trans h.hs⟩
  have a0 : fBin opSub (fC (.int 3)) (fCl clLen (aCons (fVar 9) aNil)) E = .ok (nI (3 - b.moves.length)) E := by
    show R.ok (T.int (3 - ((b.moves.map eMv).length : Nat))) E = _
    rw [List.length_map]
    show R.ok (T.int (3 - (b.moves.length : Int))) E = R.ok (T.int ((3 - b.moves.length : Nat) : Int)) E
    congr 2
    omega
  have a1 : fSlA (fVar 5) oNo (oOf (fBin opSub (fC (.int 3)) (fCl clLen (aCons (fVar 9) aNil)))) E = .ok (.lst ((ms.take (3 - b.moves.length)).map eMv)) E := by
    have o1 : oOf (fBin opSub (fC (.int 3)) (fCl clLen (aCons (fVar 9) aNil))) E = .ok (some ((3 - b.moves.length : Nat) : Int)) E := by
      unfold oOf
      rw [a0, Rbind_ok]
      rfl
    rw [x_fSlA, show fVar 5 E = .ok (smT ms) E from rfl, Rbind_ok, show oNo E = .ok none E from rfl, Rbind_ok, o1, Rbind_ok]
    show R.ok (T.lst (cutT (ms.map eMv) none (some ((3 - b.moves.length : Nat) : Int)))) E = _
    rw [cut_to, List.map_take]
  have a2 : br6e E = .ok (smT (ms.take (3 - b.moves.length) ++ b.moves)) E := by
    refine r_lst ?_
    have a3 : fLst (fClF clLst (aCons (fVar 9) aNil)) E = .ok (.lst (b.moves.map eMv)) E := rfl
    have := binF5 (op := opAddL) a1 a3 (addL (by rw [List.length_map, List.length_map, List.length_take]; omega))
    rw [this, List.map_append]
  exact sIf_f (r_tE (r_bin (x := oT L) (y := oT L) (g_with hg hb bc gc rfl rfl rfl a2) rfl (ne_same (o_cl h).1 (o_cl h).2))) rfl
theorem b7 {ms : List El} (l3 : ms.length = 3) (hm : ∀ x ∈ ms, x ∈ L) : ∃ P, Gp g.spaces (withB b ms) P ∧ br7 (bS g k x3 x4 (.val (smT ms)) x6 (nmT b) x8 x9 st) = .ok .nx (bS g k x3 x4 (.val (smT ms)) (.val (oT P)) (nmT b) x8 x9 st) := by
  have bc := ms_ok h (ms := ms) (by omega) fun m mm => (h.mem _).mp (hm m mm)
  obtain ⟨P, gP⟩ := gp_of bc
  exact ⟨P, gP, sSet_ok (i := 6) (s := bS g k x3 x4 (.val (smT ms)) x6 (nmT b) x8 x9 st) (s1 := bS g k x3 x4 (.val (smT ms)) x6 (nmT b) x8 x9 st) (t := oT P) (g_with (f := fVar 5) (s1 := bS g k x3 x4 (.val (smT ms)) x6 (nmT b) x8 x9 st) hg hb bc gP rfl rfl rfl rfl)⟩
omit hg hb in
theorem part_sub {ms : List El} (hm : ∀ x ∈ ms, x ∈ L) {P : List El} (gP : Gp g.spaces (withB b ms) P) : ∀ x ∈ P, x ∈ L := fun x mx => (h.mem _).mpr (gp_sub h.bo gP.bo rfl (fun m mm => (h.mem _).mp (hm m mm)) x ((gP.mem _).mp mx))
theorem b8 {ms : List El} (hm : ∀ x ∈ ms, x ∈ L) {P : List El} (gP : Gp g.spaces (withB b ms) P) : br8 (bS g k (.val (oT L)) x4 x5 (.val (oT P)) x7 x8 x9 st) = .ok .nx (bS g k (.val (oT L)) x4 x5 (.val (oT P)) x7 x8 x9 st) := by
  let E := bS g k (.val (oT L)) x4 x5 (.val (oT P)) x7 x8 x9 st
  have a2 : aLc (iTp (fVar 6)) (pName 13) (tE (fBin opNotIn (fVar 13) (fVar 3))) (fVar 13) [13] E = .ok [] E := by
    refine Eq.trans (b := R.ok ((P.filter fun _ => false).map eMv) E) (filS (it := iTp (fVar 6)) (p := pName 13) (c := tE (fBin opNotIn (fVar 13) (fVar 3))) (f := fVar 13) (s := E) (vs := [13]) (l := P) (en := eMv) (fun _ => false) eMv rfl fun o mo => ⟨⟨[.val (.loc 0), .val (eGr g), .val (nI k), .val (oT L), x4, x5, .val (oT P), x7, x8, x9, .un, .un, .un, .val (eMv o)], [], st⟩, rfl, ?_, fun z => absurd z Bool.false_ne_true, rfl, rfl, rfl⟩) (by rw [fil_none])
    refine r_tE (r_bin (x := eMv o) (y := oT L) rfl rfl ?_)
    rw [notin_mvT, decide_eq_true (part_sub h hm gP o mo)]
    rfl
  exact sIf_f (r_tE (r_bin (x := .lst []) (y := .lst []) (r_lst a2) rfl ne_nils)) rfl
theorem b9 {ms : List El} (hm : ∀ x ∈ ms, x ∈ L) {P : List El} (gP : Gp g.spaces (withB b ms) P) : br9 (bS g k (.val (oT L)) x4 x5 (.val (oT P)) x7 x8 x9 st) = .ok (.ret (.val (.bl true))) (bS g k (.val (oT L)) x4 x5 (.val (oT P)) x7 x8 x9 st) := by
  let E := bS g k (.val (oT L)) x4 x5 (.val (oT P)) x7 x8 x9 st
  have sub := part_sub h hm gP
  have inP : ∀ {x : El}, x ∈ P ↔ x ∈ grp (withB b ms) := fun {x} => gP.mem x
  have dv : P.length ∣ L.length := gp_lag h.bo (H := P) (G := L) (fun x mx => (h.mem _).mp (sub x mx)) (inP.mpr (gp_still gP.bo)) (fun x mx => inP.mpr (gp_inv gP.bo (inP.mp mx))) (fun x mx y my => inP.mpr (gp_mul gP.bo (inP.mp mx) (inP.mp my))) gP.nd h.nd (fun x mx => (h.mem _).mp mx) fun x mx y my => (h.mem _).mpr (gp_mul h.bo ((h.mem _).mp mx) ((h.mem _).mp (sub y my)))
  have l1 : ∀ (i : Nat) (M : List El), E.env[i]? = some (.val (oT M)) → fCl clLen (aCons (fVar i) aNil) E = .ok (nI M.length) E := fun i M q => by
    have v : fVar i E = .ok (oT M) E := by
      unfold fVar
      rw [q]
    refine r_cl (r_one v) ?_
    show some (T.int ((M.map eMv).length : Nat)) = _
    rw [List.length_map]
    rfl
  have a1 : fBin opMod (fCl clLen (aCons (fVar 3) aNil)) (fCl clLen (aCons (fVar 6) aNil)) E = .ok (.int 0) E := by
    refine r_bin (l1 3 L rfl) (l1 6 P rfl) ?_
    have := gP.pos
    refine (modI (by omega)).trans ?_
    rw [Int.emod_eq_zero_of_dvd (Int.natCast_dvd_natCast.mpr dv)]
  exact r_ret (r_bin (h := fC (.int 0)) (y := .int 0) a1 rfl (eq_self (x := .int 0) rfl (Nat.zero_le 100)))
end
theorem c_box {g : Gr} (hg : GrOk g) {k : Nat} (kl : k < g.boxes.length) {m : Nat} {st : List O} (hd : Dq B m st) (hm : m + 60 ≤ 1000000) : ∃ st', Dq B (m + 10) st' ∧ ∀ env lo, callF F__law_box_right [.loc 0, eGr g, nI k] ⟨env, lo, st⟩ = .ok (.val (.bl true)) ⟨env, lo, st'⟩ := by
  obtain ⟨b, hb⟩ : ∃ b, g.boxes[k]? = some b := ⟨_, List.getElem?_eq_getElem kl⟩
  obtain ⟨L, h⟩ := gp_of (hg.ok b (List.mem_of_getElem? hb))
  obtain ⟨st1, d1, e2⟩ := b2 hg hb h (x4 := .un) (x5 := .un) (x6 := .un) (x9 := .val (oT b.moves)) hd (by omega)
  obtain ⟨ms, st2, l3, hm2, d2, e4⟩ := b4 hg hb h (x4 := .val (bkT b)) (x5 := .un) (x6 := .un) (x7 := nmT b) (x8 := .val (hdT b)) (x9 := .val (oT b.moves)) d1 (by omega)
  obtain ⟨P, gP, e7⟩ := b7 hg hb h (x3 := .val (oT L)) (x4 := .val (bkT b)) (x6 := .un) (x8 := .val (hdT b)) (x9 := .val (oT b.moves)) (st := st2) l3 hm2
  refine ⟨st2, d2, fun env lo => ?_⟩
  refine callF_gv (s := ⟨env, lo, st⟩) (gv_ret (np := 3) (nn := 14) (f := v__law_box_right) rfl (s := bS g k (.val (oT L)) (.val (bkT b)) (.val (smT ms)) (.val (oT P)) (nmT b) (.val (hdT b)) (.val (oT b.moves)) st2) ?_)
  rw [box_eq]
  exact seq_ok (b0 hg hb) (seq_ok (b1 hg hb h) (seq_ok e2 (seq_ok (b3 hg hb h) (seq_ok e4 (seq_ok (b5 hg hb h) (seq_ok (b6 hg hb h l3 hm2) (seq_ok e7 (seq_ok (b8 hg hb h hm2 gP) (b9 hg hb h hm2 gP)))))))))
end L2.Z.D
set_option Elab.async false
set_option linter.all false
set_option maxRecDepth 100000
set_option maxHeartbeats 1000000
set_option exponentiation.threshold 500
namespace L2.Z.D
open PySem PySem.Spec PyProof.Rows
variable {B : List O}
theorem loopF_nx {p : Pat} {f : Sv} {t : T} {r : List T} {s s1 s2 : S} (h1 : p t s = .ok () s1) (h2 : f s1 = .ok .nx s2) : loopF p f (t :: r) s = loopF p f r s2 := by
  show ((p t s).bind _) = _
  rw [h1, Rbind_ok, h2, Rbind_ok]
theorem for_any {fa : Ea} {p : Pat} {f : Sv} {s s1 : S} {ts : List T} {r : R Fl} (h1 : fa s = .ok ts s1) (h2 : loopF p f ts s1 = r) : sFor fa p f s = r := by
  show ((fa s).bind _) = _
  rw [h1, Rbind_ok, h2]
theorem min2_2 (n : Nat) : clMin2 [.int 2, .int (n : Int)] = some (.int ((min 2 n : Nat) : Int)) := by
  show some (T.int (if (n : Int) < 2 then (n : Int) else 2)) = _
  congr 2
  by_cases q : (n : Int) < 2
  · rw [if_pos q]
    omega
  · rw [if_neg q]
    omega
abbrev lS (x0 : T) (x2 x3 x4 x5 : Slot) (st : List O) : S := ⟨[.val x0, .val (.loc 0), x2, x3, x4, x5], [], st⟩
noncomputable abbrev lw5 : Sv := (sIf (tNotZ (tE (fVal (fCall F__law_box_right (aCons (fVar 1) (aCons (fVar 3) (aCons (fVar 5) aNil))))))) (sRet (fC (.bl false))) sNx)
noncomputable abbrev lw2 : Sv := (sSet 3 (fVal (fCall F__law_gear (aCons (fVar 1) aNil))))
noncomputable abbrev lw3 : Sv := (sSet 4 (fCl clRepr (aCons (fVar 3) aNil)))
noncomputable abbrev lw4 : Sv := (sFor (iRng1 (aCons (fCl clLen (aCons (fBin opIx (fVar 3) (fC (.int 1))) aNil)) aNil)) (pName 5) lw5)
noncomputable abbrev lw6 : Sv := (sIf (tE (fBin opNe (fCl clRepr (aCons (fVar 3) aNil)) (fVar 4))) (sRet (fC (.bl false))) sNx)
theorem box_loop {g : Gr} (hg : GrOk g) (x0 : T) {x2 x4 : Slot} : ∀ (ks : List Nat) (x5 : Slot) (m : Nat) (st : List O), (∀ k ∈ ks, k < g.boxes.length) → Dq B m st → m + 60 * ks.length + 60 ≤ 1000000 →
    ∃ (y5 : Slot) (st' : List O), Dq B (m + 10 * ks.length) st' ∧ loopF (pName 5) lw5 (ks.map nI) (lS x0 x2 (.val (eGr g)) x4 x5 st) = .ok .nx (lS x0 x2 (.val (eGr g)) x4 y5 st')
  | [], x5, m, st, _, hd, _ => ⟨x5, st, hd, rfl⟩
  | k :: ks, x5, m, st, hk, hd, hm => by
    rw [List.length_cons] at hm
    obtain ⟨st1, d1, e1⟩ := c_box hg (hk k (List.mem_cons_self ..)) hd (by omega)
    obtain ⟨y5, st2, d2, e2⟩ := box_loop hg x0 ks (.val (nI k)) (m + 10) st1 (x2 := x2) (x4 := x4) (fun j mj => hk j (List.mem_cons_of_mem _ mj)) d1 (by omega)
    refine ⟨y5, st2, d2.mono (by rw [List.length_cons]; omega), ?_⟩
    let E (st : List O) : S := lS x0 x2 (.val (eGr g)) x4 (.val (nI k)) st
    have r : lw5 (E st) = .ok .nx (E st1) := sIf_f (s1 := E st1) (r_not (b := true) (r_tE (r_call (fa := aCons (fVar 1) (aCons (fVar 3) (aCons (fVar 5) aNil))) (ts := [.loc 0, eGr g, nI k]) (s1 := E st) rfl (e1 _ _)))) rfl
    rw [List.map_cons, loopF_nx (s1 := E st) rfl r]
    exact e2
noncomputable abbrev lwB : Sv := sSeq lw2 (sSeq lw3 (sSeq lw4 lw6))
theorem turns5 (x0 : T) : ∀ (us : List T) (x2 x3 x4 x5 : Slot) (m : Nat) (st : List O), Dq B m st → m + 3000 * us.length + 10000 ≤ 1000000 → ∃ (y2 y3 y4 y5 : Slot) (st' : List O), loopF (pName 2) lwB us (lS x0 x2 x3 x4 x5 st) = .ok .nx (lS x0 y2 y3 y4 y5 st')
  | [], x2, x3, x4, x5, m, st, _, _ => ⟨x2, x3, x4, x5, st, rfl⟩
  | u :: us, x2, x3, x4, x5, m, st, h, hm => by
    rw [List.length_cons] at hm
    obtain ⟨g, st1, hg, d1, c1⟩ := c_gear8 h (by omega)
    have b8 := hg.bx
    have rg : clRepr [eGr g] = some (.str (toD (eGr g)).shown) := repr_tup (sm_eGr hg) (by omega) (by
      have := cl_eGr g
      exact this) (Nat.le_trans (dep_eGr g) (by omega))
    let Z : Slot := .val (.str (toD (eGr g)).shown)
    obtain ⟨z5, st2, d2, e5⟩ := box_loop hg x0 (List.range g.boxes.length) x5 (m + 1000) st1 (x2 := .val u) (x4 := Z) (fun k mk => List.mem_range.mp mk) d1 (by rw [List.length_range]; omega)
    rw [List.length_range] at d2
    obtain ⟨y2, y3, y4, y5, st3, e⟩ := turns5 x0 us (.val u) (.val (eGr g)) Z z5 (m + 3000) st2 (d2.mono (by omega)) (by omega)
    refine ⟨y2, y3, y4, y5, st3, ?_⟩
    have a2 : lw2 (lS x0 (.val u) x3 x4 x5 st) = .ok .nx (lS x0 (.val u) (.val (eGr g)) x4 x5 st1) := sSet_ok (i := 3) (s := lS x0 (.val u) x3 x4 x5 st) (s1 := lS x0 (.val u) x3 x4 x5 st1) (t := eGr g) (r_call (fa := aCons (fVar 1) aNil) (ts := [.loc 0]) rfl (c1 _ _))
    have r0 : ∀ E : S, E.env[3]? = some (.val (eGr g)) → fCl clRepr (aCons (fVar 3) aNil) E = .ok (.str (toD (eGr g)).shown) E := fun E h => r_cl (xs := [eGr g]) (r_one (by
      unfold fVar
      rw [h])) rg
    have a3 : lw3 (lS x0 (.val u) (.val (eGr g)) x4 x5 st1) = .ok .nx (lS x0 (.val u) (.val (eGr g)) Z x5 st1) := sSet_ok (i := 4) (s := lS x0 (.val u) (.val (eGr g)) x4 x5 st1) (s1 := lS x0 (.val u) (.val (eGr g)) x4 x5 st1) (t := .str (toD (eGr g)).shown) (r0 _ rfl)
    have it : iRng1 (aCons (fCl clLen (aCons (fBin opIx (fVar 3) (fC (.int 1))) aNil)) aNil) (lS x0 (.val u) (.val (eGr g)) Z x5 st1) = .ok ((List.range g.boxes.length).map nI) (lS x0 (.val u) (.val (eGr g)) Z x5 st1) := by
      have l1 : fCl clLen (aCons (fBin opIx (fVar 3) (fC (.int 1))) aNil) (lS x0 (.val u) (.val (eGr g)) Z x5 st1) = .ok (nI g.boxes.length) (lS x0 (.val u) (.val (eGr g)) Z x5 st1) := by
        show R.ok (T.int ((g.boxes.map eBx).length : Nat)) _ = _
        rw [List.length_map]
        rfl
      have rk : rngOk (g.boxes.length : Int) := ⟨by omega, by omega⟩
      rw [x_iRng1, r_one l1, Rbind_ok]
      dsimp only [nI]
      rw [if_pos rk]
      exact congrArg (fun l => R.ok l _) (rng_nI g.boxes.length)
    have a4 : lw4 (lS x0 (.val u) (.val (eGr g)) Z x5 st1) = .ok .nx (lS x0 (.val u) (.val (eGr g)) Z z5 st2) := for_any it e5
    have a6 : lw6 (lS x0 (.val u) (.val (eGr g)) Z z5 st2) = .ok .nx (lS x0 (.val u) (.val (eGr g)) Z z5 st2) := sIf_f (r_tE (r_bin (y := .str (toD (eGr g)).shown) (r0 _ rfl) rfl (ne_str rfl))) rfl
    rw [loopF_nx (s1 := lS x0 (.val u) x3 x4 x5 st) rfl (seq_ok a2 (seq_ok a3 (seq_ok a4 a6)))]
    exact e
theorem law_true {ns : List Int} (h : ns.length ≤ 63) : ∃ s', F_law [.lst (ns.map T.int)] [] = .ok (.val (.bl true)) s' := by
  obtain ⟨st0', gs, d0⟩ := g_start ns h
  let k := 2 + min 2 ns.length
  have lk : (rngT 0 k).length = k := by simp [rngT]
  let x0 : T := .lst (ns.map T.int)
  obtain ⟨y2, y3, y4, y5, st1, e1⟩ := turns5 x0 (rngT 0 k) .un .un .un .un 0 st0' d0 (by rw [lk]; omega)
  let Z : S := ⟨[.val x0, .un, .un, .un, .un, .un], [], []⟩
  let E : S := lS x0 .un .un .un .un st0'
  have v0 : aCons (fVar 0) aNil Z = .ok [x0] Z := rfl
  have a1 : sSet 1 (fVal (fCall F__law_start (aCons (fVar 0) aNil))) Z = .ok .nx E := (sSet_ok (i := 1) (r_call v0 (callF_gv (s := Z) gs))).trans rfl
  have it : iRng1 (aCons (fBin opAdd (fC (.int 2)) (fCl clMin2 (aCons (fC (.int 2)) (aCons (fCl clLen (aCons (fVar 0) aNil)) aNil)))) aNil) E = .ok (rngT 0 k) E := by
    have l1 : fCl clLen (aCons (fVar 0) aNil) E = .ok (.int (ns.length : Nat)) E := by
      show R.ok (T.int (ns.map T.int).length) _ = _
      rw [List.length_map]
    have l2 : fCl clMin2 (aCons (fC (.int 2)) (aCons (fCl clLen (aCons (fVar 0) aNil)) aNil)) E = .ok (.int ((min 2 ns.length : Nat) : Int)) E := by
      refine r_cl (r_two (f := fC (.int 2)) (a := .int 2) (s1 := E) rfl l1) ?_
      exact min2_2 ns.length
    have l3 : fBin opAdd (fC (.int 2)) (fCl clMin2 (aCons (fC (.int 2)) (aCons (fCl clLen (aCons (fVar 0) aNil)) aNil))) E = .ok (.int (k : Nat)) E := by
      refine r_bin (f := fC (.int 2)) (x := .int 2) rfl l2 ?_
      show some (T.int (2 + ((min 2 ns.length : Nat) : Int))) = _
      congr 2
    have rk : rngOk (k : Int) := ⟨by omega, by omega⟩
    rw [x_iRng1, r_one l3, Rbind_ok]
    dsimp only
    rw [if_pos rk]
    rfl
  have gv : Gv F_law [x0] [] (.val (.bl true)) st1 := gv_ret (np := 1) (nn := 6) (f := v_law) rfl (s := lS x0 y2 y3 y4 y5 st1) (seq_ok a1 (seq_ok (s1 := lS x0 y2 y3 y4 y5 st1) (for_any it e1) (r_ret (f := fC (.bl true)) rfl)))
  obtain ⟨s', e, _⟩ := gv
  exact ⟨s', e⟩
end L2.Z.D
set_option Elab.async false
set_option linter.all false
set_option maxRecDepth 100000
set_option maxHeartbeats 0
namespace L2.Z.D
open PySem PySem.Spec PyProof.Rows
theorem wd_of {P : Program} {w : World} {K : PySem.W.Frag} {h : Heap} {mg : Str → Option Value} (X : K.In h) (G : h.Ns mainGlobals mg) (c : He.SaysX hfa hfn hts htf hex w h K) (base : Heap) : ∃ W : Wd P w K mg base, W.a_law = He.ga K "law" ∧ FunD K "law" "law" (defArgs (top 45)) (defBody (top 45)) (defScope (top 45)) [] [] W.a_law W.f_law := by
  have cd := c.t.d
  obtain ⟨f0, D0⟩ := cd.def_ 0 (d := dfn "is_whole" 8) rfl
  obtain ⟨f1, D1⟩ := cd.def_ 1 (d := dfn "is_name" 9) rfl
  obtain ⟨f2, D2⟩ := cd.def_ 2 (d := dfn "own_tuple" 16) rfl
  obtain ⟨f3, D3⟩ := cd.def_ 3 (d := dfn "own_rising" 17) rfl
  obtain ⟨f4, D4⟩ := cd.def_ 4 (d := dfn "own_slot" 18) rfl
  obtain ⟨f5, D5⟩ := cd.def_ 5 (d := dfn "own_order" 19) rfl
  obtain ⟨f6, D6⟩ := cd.def_ 6 (d := dfn "own_move" 20) rfl
  obtain ⟨f7, D7⟩ := cd.def_ 7 (d := dfn "own_box" 21) rfl
  obtain ⟨f8, D8⟩ := cd.def_ 8 (d := dfn "own_gear" 22) rfl
  obtain ⟨f9, D9⟩ := cd.def_ 9 (d := dfn "need_gear" 23) rfl
  obtain ⟨f10, D10⟩ := cd.def_ 10 (d := dfn "own_box_of" 24) rfl
  obtain ⟨f11, D11⟩ := cd.def_ 11 (d := dfn "own_slots" 25) rfl
  obtain ⟨f12, D12⟩ := cd.def_ 12 (d := dfn "moved" 26) rfl
  obtain ⟨f13, D13⟩ := cd.def_ 13 (d := dfn "own_group" 27) rfl
  obtain ⟨f14, D14⟩ := cd.def_ 14 (d := dfn "slots" 28) rfl
  obtain ⟨f15, D15⟩ := cd.def_ 15 (d := dfn "group" 29) rfl
  obtain ⟨f16, D16⟩ := cd.def_ 16 (d := dfn "_law_start" 31) rfl
  obtain ⟨f17, D17⟩ := cd.def_ 17 (d := dfn "_law_draw" 32) rfl
  obtain ⟨f18, D18⟩ := cd.def_ 18 (d := dfn "_law_pick" 33) rfl
  obtain ⟨f19, D19⟩ := cd.def_ 19 (d := dfn "_law_names" 34) rfl
  obtain ⟨f20, D20⟩ := cd.def_ 20 (d := dfn "_law_order" 35) rfl
  obtain ⟨f21, D21⟩ := cd.def_ 21 (d := dfn "_law_gear" 36) rfl
  obtain ⟨f22, D22⟩ := cd.def_ 22 (d := dfn "_law_back" 37) rfl
  obtain ⟨f23, D23⟩ := cd.def_ 23 (d := dfn "_law_all" 38) rfl
  obtain ⟨f24, D24⟩ := cd.def_ 24 (d := dfn "_law_things" 39) rfl
  obtain ⟨f25, D25⟩ := cd.def_ 25 (d := dfn "_law_moved_right" 40) rfl
  obtain ⟨f26, D26⟩ := cd.def_ 26 (d := dfn "_law_after" 41) rfl
  obtain ⟨f27, D27⟩ := cd.def_ 27 (d := dfn "_law_closed" 42) rfl
  obtain ⟨f28, D28⟩ := cd.def_ 28 (d := dfn "_law_with" 43) rfl
  obtain ⟨f29, D29⟩ := cd.def_ 29 (d := dfn "_law_box_right" 44) rfl
  obtain ⟨f30, D30⟩ := cd.def_ 30 (d := dfn "law" 45) rfl
  have q0 := c.more
  obtain ⟨p0, q1⟩ := He.ba (show (He.tupB K "SIDES" [.str "down", .str "up"] && _) = true from q0)
  obtain ⟨p1, q2⟩ := He.ba (show (ndB K (He.ga K "SIDES") && _) = true from q1)
  refine ⟨{
    b_all := He.free_ok X G (cd.fact 32 (f := .free "all") rfl),
    b_bool := He.free_ok X G (cd.fact 33 (f := .free "bool") rfl),
    b_enumerate := He.free_ok X G (cd.fact 34 (f := .free "enumerate") rfl),
    b_int := He.free_ok X G (cd.fact 35 (f := .free "int") rfl),
    b_isinstance := He.free_ok X G (cd.fact 36 (f := .free "isinstance") rfl),
    b_len := He.free_ok X G (cd.fact 37 (f := .free "len") rfl),
    b_list := He.free_ok X G (cd.fact 38 (f := .free "list") rfl),
    b_min := He.free_ok X G (cd.fact 39 (f := .free "min") rfl),
    b_range := He.free_ok X G (cd.fact 40 (f := .free "range") rfl),
    b_repr := He.free_ok X G (cd.fact 41 (f := .free "repr") rfl),
    b_set := He.free_ok X G (cd.fact 42 (f := .free "set") rfl),
    b_sorted := He.free_ok X G (cd.fact 43 (f := .free "sorted") rfl),
    b_str := He.free_ok X G (cd.fact 44 (f := .free "str") rfl),
    b_tuple := He.free_ok X G (cd.fact 45 (f := .free "tuple") rfl),
    b_zip := He.free_ok X G (cd.fact 46 (f := .free "zip") rfl),
    c_MOST_BOXES := He.int_ok X G (cd.fact 47 (f := .int "MOST_BOXES" 8) rfl),
    c_MOST_LETTERS := He.int_ok X G (cd.fact 48 (f := .int "MOST_LETTERS" 8) rfl),
    c_MOST_MOVES := He.int_ok X G (cd.fact 49 (f := .int "MOST_MOVES" 3) rfl),
    c_MOST_SLOTS := He.int_ok X G (cd.fact 50 (f := .int "MOST_SLOTS" 4) rfl),
    c_MOST_SPACES := He.int_ok X G (cd.fact 51 (f := .int "MOST_SPACES" 3) rfl),
    c_LETTERS := He.str_ok X G (cd.fact 52 (f := .str "LETTERS" "abcdefghijklmnopqrstuvwxyz") rfl),
    c_SIDES := ⟨_, He.glo_ok X G (cd.fact 31 (f := .glo "SIDES") rfl), ⟨fun H => He.tupB_ok p0 H, ndB_ok p1⟩⟩,
    a_is_whole := He.ga K "is_whole", f_is_whole := f0, m_is_whole := He.glo_ok X G (cd.fact 0 (f := .glo "is_whole") rfl), D_is_whole := D0, k_is_whole := D0.kp,
    B_is_whole := FunD.bindsN (ps := ["thing", "least", "most"]) D0 fun _ _ _ _ _ _ us hl => match us, hl with | [_, _, _], _ => rfl,
    a_is_name := He.ga K "is_name", f_is_name := f1, m_is_name := He.glo_ok X G (cd.fact 1 (f := .glo "is_name") rfl), D_is_name := D1, k_is_name := D1.kp,
    B_is_name := FunD.bindsN (ps := ["thing"]) D1 fun _ _ _ _ _ _ us hl => match us, hl with | [_], _ => rfl,
    a_own_tuple := He.ga K "own_tuple", f_own_tuple := f2, m_own_tuple := He.glo_ok X G (cd.fact 2 (f := .glo "own_tuple") rfl), D_own_tuple := D2, k_own_tuple := D2.kp,
    B_own_tuple := FunD.bindsN (ps := ["thing", "least", "most"]) D2 fun _ _ _ _ _ _ us hl => match us, hl with | [_, _, _], _ => rfl,
    a_own_rising := He.ga K "own_rising", f_own_rising := f3, m_own_rising := He.glo_ok X G (cd.fact 3 (f := .glo "own_rising") rfl), D_own_rising := D3, k_own_rising := D3.kp,
    B_own_rising := FunD.bindsN (ps := ["names"]) D3 fun _ _ _ _ _ _ us hl => match us, hl with | [_], _ => rfl,
    a_own_slot := He.ga K "own_slot", f_own_slot := f4, m_own_slot := He.glo_ok X G (cd.fact 4 (f := .glo "own_slot") rfl), D_own_slot := D4, k_own_slot := D4.kp,
    B_own_slot := FunD.bindsN (ps := ["spaces", "thing"]) D4 fun _ _ _ _ _ _ us hl => match us, hl with | [_, _], _ => rfl,
    a_own_order := He.ga K "own_order", f_own_order := f5, m_own_order := He.glo_ok X G (cd.fact 5 (f := .glo "own_order") rfl), D_own_order := D5, k_own_order := D5.kp,
    B_own_order := FunD.bindsN (ps := ["held", "thing"]) D5 fun _ _ _ _ _ _ us hl => match us, hl with | [_, _], _ => rfl,
    a_own_move := He.ga K "own_move", f_own_move := f6, m_own_move := He.glo_ok X G (cd.fact 6 (f := .glo "own_move") rfl), D_own_move := D6, k_own_move := D6.kp,
    B_own_move := FunD.bindsN (ps := ["held", "thing"]) D6 fun _ _ _ _ _ _ us hl => match us, hl with | [_, _], _ => rfl,
    a_own_box := He.ga K "own_box", f_own_box := f7, m_own_box := He.glo_ok X G (cd.fact 7 (f := .glo "own_box") rfl), D_own_box := D7, k_own_box := D7.kp,
    B_own_box := FunD.bindsN (ps := ["spaces", "thing"]) D7 fun _ _ _ _ _ _ us hl => match us, hl with | [_, _], _ => rfl,
    a_own_gear := He.ga K "own_gear", f_own_gear := f8, m_own_gear := He.glo_ok X G (cd.fact 8 (f := .glo "own_gear") rfl), D_own_gear := D8, k_own_gear := D8.kp,
    B_own_gear := FunD.bindsN (ps := ["thing"]) D8 fun _ _ _ _ _ _ us hl => match us, hl with | [_], _ => rfl,
    a_need_gear := He.ga K "need_gear", f_need_gear := f9, m_need_gear := He.glo_ok X G (cd.fact 9 (f := .glo "need_gear") rfl), D_need_gear := D9, k_need_gear := D9.kp,
    B_need_gear := FunD.bindsN (ps := ["gear"]) D9 fun _ _ _ _ _ _ us hl => match us, hl with | [_], _ => rfl,
    a_own_box_of := He.ga K "own_box_of", f_own_box_of := f10, m_own_box_of := He.glo_ok X G (cd.fact 10 (f := .glo "own_box_of") rfl), D_own_box_of := D10, k_own_box_of := D10.kp,
    B_own_box_of := FunD.bindsN (ps := ["gear", "box"]) D10 fun _ _ _ _ _ _ us hl => match us, hl with | [_, _], _ => rfl,
    a_own_slots := He.ga K "own_slots", f_own_slots := f11, m_own_slots := He.glo_ok X G (cd.fact 11 (f := .glo "own_slots") rfl), D_own_slots := D11, k_own_slots := D11.kp,
    B_own_slots := FunD.bindsN (ps := ["gear", "box"]) D11 fun _ _ _ _ _ _ us hl => match us, hl with | [_, _], _ => rfl,
    a_moved := He.ga K "moved", f_moved := f12, m_moved := He.glo_ok X G (cd.fact 12 (f := .glo "moved") rfl), D_moved := D12, k_moved := D12.kp,
    B_moved := FunD.bindsN (ps := ["row", "order"]) D12 fun _ _ _ _ _ _ us hl => match us, hl with | [_, _], _ => rfl,
    a_own_group := He.ga K "own_group", f_own_group := f13, m_own_group := He.glo_ok X G (cd.fact 13 (f := .glo "own_group") rfl), D_own_group := D13, k_own_group := D13.kp,
    B_own_group := FunD.bindsN (ps := ["gear", "box"]) D13 fun _ _ _ _ _ _ us hl => match us, hl with | [_, _], _ => rfl,
    a_slots := He.ga K "slots", f_slots := f14, m_slots := He.glo_ok X G (cd.fact 14 (f := .glo "slots") rfl), D_slots := D14, k_slots := D14.kp,
    B_slots := FunD.bindsN (ps := ["gear", "box"]) D14 fun _ _ _ _ _ _ us hl => match us, hl with | [_, _], _ => rfl,
    a_group := He.ga K "group", f_group := f15, m_group := He.glo_ok X G (cd.fact 15 (f := .glo "group") rfl), D_group := D15, k_group := D15.kp,
    B_group := FunD.bindsN (ps := ["gear", "box"]) D15 fun _ _ _ _ _ _ us hl => match us, hl with | [_, _], _ => rfl,
    a__law_start := He.ga K "_law_start", f__law_start := f16, m__law_start := He.glo_ok X G (cd.fact 16 (f := .glo "_law_start") rfl), D__law_start := D16, k__law_start := D16.kp,
    B__law_start := FunD.bindsN (ps := ["_law_script"]) D16 fun _ _ _ _ _ _ us hl => match us, hl with | [_], _ => rfl,
    a__law_draw := He.ga K "_law_draw", f__law_draw := f17, m__law_draw := He.glo_ok X G (cd.fact 17 (f := .glo "_law_draw") rfl), D__law_draw := D17, k__law_draw := D17.kp,
    B__law_draw := FunD.bindsN (ps := ["_law_d", "_law_many"]) D17 fun _ _ _ _ _ _ us hl => match us, hl with | [_, _], _ => rfl,
    a__law_pick := He.ga K "_law_pick", f__law_pick := f18, m__law_pick := He.glo_ok X G (cd.fact 18 (f := .glo "_law_pick") rfl), D__law_pick := D18, k__law_pick := D18.kp,
    B__law_pick := FunD.bindsN (ps := ["_law_d", "_law_some"]) D18 fun _ _ _ _ _ _ us hl => match us, hl with | [_, _], _ => rfl,
    a__law_names := He.ga K "_law_names", f__law_names := f19, m__law_names := He.glo_ok X G (cd.fact 19 (f := .glo "_law_names") rfl), D__law_names := D19, k__law_names := D19.kp,
    B__law_names := FunD.bindsN (ps := ["_law_d", "_law_many"]) D19 fun _ _ _ _ _ _ us hl => match us, hl with | [_, _], _ => rfl,
    a__law_order := He.ga K "_law_order", f__law_order := f20, m__law_order := He.glo_ok X G (cd.fact 20 (f := .glo "_law_order") rfl), D__law_order := D20, k__law_order := D20.kp,
    B__law_order := FunD.bindsN (ps := ["_law_d", "_law_held"]) D20 fun _ _ _ _ _ _ us hl => match us, hl with | [_, _], _ => rfl,
    a__law_gear := He.ga K "_law_gear", f__law_gear := f21, m__law_gear := He.glo_ok X G (cd.fact 21 (f := .glo "_law_gear") rfl), D__law_gear := D21, k__law_gear := D21.kp,
    B__law_gear := FunD.bindsN (ps := ["_law_d"]) D21 fun _ _ _ _ _ _ us hl => match us, hl with | [_], _ => rfl,
    a__law_back := He.ga K "_law_back", f__law_back := f22, m__law_back := He.glo_ok X G (cd.fact 22 (f := .glo "_law_back") rfl), D__law_back := D22, k__law_back := D22.kp,
    B__law_back := FunD.bindsN (ps := ["_law_path"]) D22 fun _ _ _ _ _ _ us hl => match us, hl with | [_], _ => rfl,
    a__law_all := He.ga K "_law_all", f__law_all := f23, m__law_all := He.glo_ok X G (cd.fact 23 (f := .glo "_law_all") rfl), D__law_all := D23, k__law_all := D23.kp,
    B__law_all := FunD.bindsN (ps := ["_law_held"]) D23 fun _ _ _ _ _ _ us hl => match us, hl with | [_], _ => rfl,
    a__law_things := He.ga K "_law_things", f__law_things := f24, m__law_things := He.glo_ok X G (cd.fact 24 (f := .glo "_law_things") rfl), D__law_things := D24, k__law_things := D24.kp,
    B__law_things := FunD.bindsN (ps := ["_law_d", "_law_many"]) D24 fun _ _ _ _ _ _ us hl => match us, hl with | [_, _], _ => rfl,
    a__law_moved_right := He.ga K "_law_moved_right", f__law_moved_right := f25, m__law_moved_right := He.glo_ok X G (cd.fact 25 (f := .glo "_law_moved_right") rfl), D__law_moved_right := D25, k__law_moved_right := D25.kp,
    B__law_moved_right := FunD.bindsN (ps := ["_law_d", "_law_held", "_law_own"]) D25 fun _ _ _ _ _ _ us hl => match us, hl with | [_, _, _], _ => rfl,
    a__law_after := He.ga K "_law_after", f__law_after := f26, m__law_after := He.glo_ok X G (cd.fact 26 (f := .glo "_law_after") rfl), D__law_after := D26, k__law_after := D26.kp,
    B__law_after := FunD.bindsN (ps := ["_law_path", "_law_step"]) D26 fun _ _ _ _ _ _ us hl => match us, hl with | [_, _], _ => rfl,
    a__law_closed := He.ga K "_law_closed", f__law_closed := f27, m__law_closed := He.glo_ok X G (cd.fact 27 (f := .glo "_law_closed") rfl), D__law_closed := D27, k__law_closed := D27.kp,
    B__law_closed := FunD.bindsN (ps := ["_law_d", "_law_held", "_law_own"]) D27 fun _ _ _ _ _ _ us hl => match us, hl with | [_, _, _], _ => rfl,
    a__law_with := He.ga K "_law_with", f__law_with := f28, m__law_with := He.glo_ok X G (cd.fact 28 (f := .glo "_law_with") rfl), D__law_with := D28, k__law_with := D28.kp,
    B__law_with := FunD.bindsN (ps := ["_law_gear_so", "_law_at", "_law_moves"]) D28 fun _ _ _ _ _ _ us hl => match us, hl with | [_, _, _], _ => rfl,
    a__law_box_right := He.ga K "_law_box_right", f__law_box_right := f29, m__law_box_right := He.glo_ok X G (cd.fact 29 (f := .glo "_law_box_right") rfl), D__law_box_right := D29, k__law_box_right := D29.kp,
    B__law_box_right := FunD.bindsN (ps := ["_law_d", "_law_gear_so", "_law_at"]) D29 fun _ _ _ _ _ _ us hl => match us, hl with | [_, _, _], _ => rfl,
    a_law := He.ga K "law", f_law := f30, m_law := He.glo_ok X G (cd.fact 30 (f := .glo "law") rfl), D_law := D30, k_law := D30.kp,
    B_law := FunD.bindsN (ps := ["_law_script"]) D30 fun _ _ _ _ _ _ us hl => match us, hl with | [_], _ => rfl }, rfl, D30⟩
end L2.Z.D
namespace L2.Z.D
open PySem PySem.W PySem.Calls PyProof.Rows
abbrev rq : Program := view RR.prog [45]
abbrev rd0 : DefRec := HandSHeadRun.topDef RR.prog 45
theorem h_op : opening RR.prog = plainProg RR.prog.main.scope.names := by kernel_rfl
theorem h_fe (s : Shared) : fenceModules? RR.prog s = some s := by kernel_rfl
theorem h_df : defOf rq RR.name = some (rd0, []) := by kernel_rfl
theorem h_td : RR.prog.theDef RR.name = some (rd0.params, rd0.body, rd0.scope) := by kernel_rfl
theorem h_kw : kwWritten? rd0.params.kwonlyargs rd0.params.kw_defaults = some [] := by kernel_rfl
theorem h_ch : (chainsOk rq && opensWell RR.prog && (PySem.W.frees RR.toRowW && RR.within.isEmpty)) = true := by decide +kernel
theorem h_ba : RR.prog.bare := ⟨rfl, rfl, rfl, rfl, rfl, by decide +kernel⟩
theorem h_de : rd0.params.defaults = [] := by kernel_rfl
theorem h_nm : rd0.name = ("law" : PySem.Str) := by kernel_rfl
theorem h_pr : RR.toRowW.promised := by w_witness2
theorem h_end (h : RR.wellSaid = true → RR.Holds) : PySem.Challenge.rw_slotsure_k05_whole_groups_hang_together.Holds := by
  w_on; o_law
  exact h (by first | assumption | decide +kernel)
theorem h_walk (hF : ∀ ns : List Int, ns.length ≤ 63 → ∃ s', F_law [.lst (ns.map L2.Z.T.int)] [] = .ok (.val (.bl true)) s') : WalkO rq loose (XL rq []) hk.says RR.toRowW rd0 [] (fun f vs => PySem.call f vs) := by
  refine L2.Z.walk_ofG (l := PySem.Challenge.rw_slotsure_k05_whole_groups_hang_together) (n := 63) (k := 9) (x := "_law_script") (F := F_law) rfl (by decide) h_de ⟨rfl, by decide, by decide⟩ hF fun w mg fa h Y G hm0 => ?_
  obtain ⟨K, KX, c⟩ := Y
  have hm : mg ("law" : PySem.Str) = some (.ref fa) := by rw [← h_nm]; exact hm0
  obtain ⟨W0, ea, DL⟩ := wd_of (P := PySem.Challenge.rw_slotsure_k05_whole_groups_hang_together.prog) KX G c h
  have e := hm.symm.trans W0.m_law
  have e : fa = W0.a_law := by injection e with e; injection e
  subst e
  have bb := L2.FunD.bindsA (ps := ["_law_script"]) DL fun _ _ _ _ _ _ us hl => match us, hl with | [_], _ => rfl
  refine ⟨K, W0.f_law, KX, fun s v => bb s [v] rfl, fun base hb hn => ?_⟩
  obtain ⟨W, e2, DL2⟩ := wd_of (P := PySem.Challenge.rw_slotsure_k05_whole_groups_hang_together.prog) KX G c base
  have e3 : W.a_law = W0.a_law := e2.trans ea.symm
  have e4 : W.f_law = W0.f_law := L2.Z.fund_one (e3 ▸ DL2) DL
  have g := G_law W
  rw [e3, e4] at g
  exact g
theorem holds (hF : ∀ ns : List Int, ns.length ≤ 63 → ∃ s', F_law [.lst (ns.map L2.Z.T.int)] [] = .ok (.val (.bl true)) s') : PySem.Challenge.rw_slotsure_k05_whole_groups_hang_together.Holds :=
  h_end fun hs => HandSHeadRun.head_any (q := rq) (H := hk) (ob := ob) (M := 12000) (loose := loose) (d := rd0) (kwd := []) ob_eq h_op h_fe run h_df h_td h_kw rfl hs h_ch h_ba h_pr (h_walk hF)
end L2.Z.D
theorem PySem.Challenge.cw_slotsure_k05_whole_groups_hang_together_holds : PySem.Challenge.rw_slotsure_k05_whole_groups_hang_together.Holds := by
  exact L2.Z.D.holds fun ns h => L2.Z.D.law_true h
