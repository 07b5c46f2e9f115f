import PyProof.Rows.All
import Wide.All
import OpenK.AllK
import Wide.FinOn
import HandS.Base
import HandS.Call
import HandS.List
import HandS.Dict
import HandS.More
import HandS.Exc
import HandS.Defaults
import HandS.ClsMeth
import HandS.HeadHook1
import HandS.HeadHook2
import HandS.HeadHook3
import HandS.HeadHook4
import KE.KDictOf
import KE.KStateDown
import Lean
import HandS.Ends
import HandS.Words
import HandS.WordsExc
import HandS.Codes
import HandS.Head0
import HandS.Head1
import HandS.Head2
import HandS.HeadEnd
import PyProof.EqAt
import PyProof.EqKinds
import PyProof.InstEq
import PyProof.DictUpdate
import HandS.ForMost
import PyProof.ToksMono
import PyProof.StrReplace2
import HandS.Replace
import PyProof.NeKinds
import HandS.Flow
import HandS.Style
import HandS.IsInst
import HandS.StrMore
import PyProof.StrLawsFrom
import PyProof.StrOps2
import HandS.Walk
import KE.SortData
import KE.SortLaws
import KE.OsSortAny
import HandS.Nested
import HandS.Lambda
import HandS.EndTab
import HandS.HeadWalk
import PySem.Challenge.RW_recordyard_k71_deeds_told
set_option Elab.async false
set_option linter.all false
set_option maxRecDepth 100000
set_option maxHeartbeats 2000000
/-! A Hook over any list of addresses: the defs and classes that the module reaches, and the statics. -/
namespace RyH
open PySem PySem.Spec PyProof.Rows L2 He
/-- what is gathered: the module's names that are wanted; of a class its own dict and the methods that are wanted, of a def its code and its defaults -/
abbrev Need : Type := List (Str × List Str)
def keyStr : Value → Str
  | .str x _ => x
  | _ => ""
def fnAs (a : Addr) (fd : FuncData) : List Addr := a :: (refV fd.code ++ refV fd.defaults)
def methAs (g : Addr → Option Obj) (ms : List Str) (d : Addr) : List Addr := match g d with
  | some ⟨_, _, .dict es _, _⟩ => d :: es.toList.flatMap fun e => match ms.contains (keyStr e.key) with
    | true => (match e.val with
      | .ref b => (match g b with
        | some ⟨_, _, .func fd, _⟩ => fnAs b fd
        | _ => [])
      | _ => [])
    | false => []
  | _ => [d]
def oneAs (g : Addr → Option Obj) (ms : List Str) (a : Addr) : List Addr := match g a with
  | some ⟨_, _, .func fd, _⟩ => fnAs a fd
  | some ⟨_, _, .cls cd, _⟩ => a :: methAs g ms cd.ns
  | some _ => [a]
  | none => []
def asR (g : Addr → Option Obj) (n : Need) : List Addr := cStatics :: mainGlobals :: (match g mainGlobals with
  | some ⟨_, _, .dict es _, _⟩ => es.toList.flatMap fun e => match n.lookup (keyStr e.key) with
    | some ms => (match e.val with
      | .ref a => oneAs g ms a
      | _ => [])
    | none => []
  | _ => [])
def frR (n : Need) (g : Addr → Option Obj) : PySem.W.Frag := frT g (asR g n)
def obsR (n : Need) (fa : List Fa) (fn : List DefD) (ts : List Tab) (tf : List Defn) (ex : PySem.W.Frag → Bool) (g : Addr → Option Obj) : AlX := (obsT fa fn ts (frR n g), ex (frR n g) && tabsB g tf (frR n g))
theorem says_of {n : Need} {fa : List Fa} {fn : List DefD} {ts : List Tab} {tf : List Defn} {ex : PySem.W.Frag → Bool} {w : World} {h : Heap} (e : obsR n fa fn ts tf ex h.get? = valX fn ts w) : SaysX fa fn ts tf ex w h (frR n h.get?) := by
  have e1 : obsT fa fn ts (frR n h.get?) = valT fn ts w := congrArg (fun z : AlX => z.1) e
  have e2 : (ex (frR n h.get?) && tabsB h.get? tf (frR n h.get?)) = true := congrArg (fun z : AlX => z.2) e
  obtain ⟨h1, h2⟩ := ba e2
  have key : ∀ p ∈ tf, PySem.W.codeHdIn (frR n h.get?) (cT (frR n h.get?) p).1 (cT (frR n h.get?) p).2 = true ∧ ∃ o, h.get? (cT (frR n h.get?) p).2 = some o ∧ emptyTab o = true := fun p hp => by
    obtain ⟨h3, h4⟩ := ba (List.all_eq_true.mp h2 p hp)
    refine ⟨h3, ?_⟩
    cases q : h.get? (cT (frR n h.get?) p).2 with
    | none =>
      rw [q] at h4
      cases h4
    | some o =>
      rw [q] at h4
      exact ⟨o, rfl, h4⟩
  exact ⟨e1, h1, fun p hp => (key p hp).1, fun p hp => by
    obtain ⟨_, o, q, z⟩ := key p hp
    exact frT_none q z, fun p hp => by
    obtain ⟨_, o, q, z⟩ := key p hp
    rw [q, emptyTab_eq z]⟩
def hookR (n : Need) (fa : List Fa) (fn : List DefD) (ts : List Tab) (tf : List Defn) (ex : PySem.W.Frag → Bool) : PySem.W.Hook where
  α := AlX
  obs := fun s => obsR n fa fn ts tf ex s.heap.get?
  val := fun w => valX fn ts w
  says := fun w h => ∃ K : PySem.W.Frag, K.In h ∧ SaysX fa fn ts tf ex w h K
  of := fun _ _ e => ⟨_, frT_in, says_of e⟩
  keeps := fun _ _ _ ⟨K, hK, c⟩ k => ⟨K, PySem.W.Frag.In.keeps hK k, ⟨c.t, c.more, c.hd, c.out, fun p hp => k _ _ (c.empty p hp)⟩⟩
theorem obsR_eq {n : Need} {fa : List Fa} {fn : List DefD} {ts : List Tab} {tf : List Defn} {ex : PySem.W.Frag → Bool} {g : Addr → Option Obj} {s : Shared} (h : ∀ a, g a = s.heap.get? a) : obsR n fa fn ts tf ex g = (hookR n fa fn ts tf ex).obs s := by
  have e : g = s.heap.get? := funext h
  rw [e] <;> rfl
/-! ### a def of a class, called by the class's name -/
/-- C.m is the def at g, as it stands -/
structure CFn (K : PySem.W.Frag) (C : Addr) (m : Str) (g : Addr) : Prop where
  rd : PySem.W.readsIn K C (.type "type") = true
  ga : PySem.W.specialIn K (.ref C) "__getattribute__" = some (some (.builtin "type.__getattribute__"))
  at_ : PySem.W.findCls K (.ref C) (.type "type") m = some (.val (.ref g))
  kp : PySem.W.keepIn K (.ref g) = true
def cfnB (K : PySem.W.Frag) (x m : Str) : Bool :=
  PySem.W.readsIn K (ga K x) (.type "type") && (eqO (PySem.W.specialIn K (.ref (ga K x)) "__getattribute__") (some (some (.builtin "type.__getattribute__"))) && (PySem.W.keepIn K (.ref (ma K (ga K x) m)) &&
    (match PySem.W.findCls K (.ref (ga K x)) (.type "type") m with
      | some (.val (.ref g)) => decide (g = ma K (ga K x) m)
      | _ => false)))
theorem cfn_ok {K : PySem.W.Frag} {x m : Str} (h : cfnB K x m = true) : CFn K (ga K x) m (ma K (ga K x) m) := by
  obtain ⟨h1, h⟩ := ba h
  obtain ⟨h2, h⟩ := ba h
  obtain ⟨h3, h4⟩ := ba h
  refine ⟨h1, eqO_ok h2, ?_, h3⟩
  split at h4
  · rename_i g e
    rw [e, of_decide_eq_true h4]
  · cases h4
section
variable {X : Cx} {CX : CXT} {k : Nat} {C g : Addr} {sp : Sp} {E : XK} {fd : FuncData} {ps : List Str} {ds : List Value} {dvs : List V} {o e : Expr} {es : List Expr} {m : Str} {pos apos : Pos} {ta : TE} {t : TA} {pl : Sem Bool}
/-- C.m(..), C an own class, m a def of it: as a call of the def -/
def tCFn (C : Addr) (sp : Sp) (dvs : List V) (E : XK) (ta : TE) (t : TA) : TE := fun σ H Q => ta σ H fun x H1 => x = .ref C ∧ t σ H1 fun vs H2 => sp (vs ++ dvs) H2 Q E
theorem pe_cfn (he : PE X o ta) (c : CFn X.K C m g) (F : FnOk X.prog X.w X.K X.mg X.base CX k g fd ps sp) (hr : Room k X.A) (hb : Binds X.K fd ps ds) (hd : Vals dvs ds) (hx : Passes CX X E) (ha : PA X (e :: es) t)
    (hst : starEach (e :: es) X.env = (false, eval e X.env) :: starEach es X.env := by rfl) (hpl : (backTo pos (starEach es X.env)).any (·.1) = false := by rfl)
    (ht : eval (.Call (.Attribute o m apos) (e :: es) [] pos) X.env = (do
      let ov ← eval o X.env
      standAt apos.atName
      let (f, first) ← holding [ov] (getMethod ov m pl)
      callWith pos f first (backTo pos (starEach (e :: es) X.env)) (backToKw pos (keywordEach [] X.env))) := by rfl) :
    PE X (.Call (.Attribute o m apos) (e :: es) [] pos) (tCFn C sp dvs E ta t) := by
  refine ⟨fun pins s σ H Q I h => ?_⟩
  refine PySem.W.methodCall_KW (pl := pl) (thn (he.run pins s σ H _ I h) fun u s1 ⟨x, H1, I1, rx, ex, q⟩ => ?_) ht
  subst ex
  obtain rfl : u = Value.ref C := rx
  refine PySem.W.method_cls I1.kIn c.ga (PySem.W.cls_value I1.kIn c.rd c.at_ (by rfl) ?_)
  refine PySem.W.callWith_K (h₀ := X.base) I1.ok.mod.kin c.kp (thn (ha.run pos pins _ σ H1 _ (I1.tok _) q) fun us s2 ⟨vs, H2, I2, r, q2⟩ => ⟨I2.kIn, ?_⟩) hst hpl
  exact run_fn F hr hb hd hx I2 r q2
end
/-! ### what a law's ex tells besides -/
/-- an entry of a dict of ints and texts -/
def entB (e : DictEntry) (kv : Key × V) : Bool := (match e.key, kv.1 with
    | .int i _, .inl j => decide (i = j) && decide (e.hash = hashInt i)
    | .str x _, .inr y => decide (x = y)
    | _, _ => false) && (match e.val, kv.2 with
    | .int i _, .int j => decide (i = j)
    | .str x _, .str y => decide (x = y)
    | _, _ => false)
def entsB : List DictEntry → List (Key × V) → Bool
  | [], [] => true
  | e :: es, kv :: kvs => entB e kv && entsB es kvs
  | _, _ => false
def dicKB (K : PySem.W.Frag) (a : Addr) (kvs : List (Key × V)) : Bool := match K.lookup a with
  | some ⟨.type c, none, .dict es _, sl⟩ => decide (c = "dict") && (sl.isEmpty && (!(a == sysModules) && (entsB es.toList kvs && decide (kvs.map (·.1)).Nodup)))
  | _ => false
theorem entB_ok {w : World} {e : DictEntry} {kv : Key × V} (h : entB e kv = true) (hs : ∀ x t, e.key = .str x t → e.hash = hashStr w x) : keyIs kv.1 e.key = true ∧ e.hash = keyH w kv.1 ∧ RelV kv.2 e.val := by
  obtain ⟨h1, h2⟩ := ba h
  obtain ⟨k, v⟩ := kv
  have hk : keyIs k e.key = true ∧ e.hash = keyH w k := by
    split at h1
    · rename_i i t j q1 q2
      obtain ⟨a, b⟩ := ba h1
      dsimp only at q2
      subst q2
      rw [q1, ← of_decide_eq_true a]
      exact ⟨keyIs_int _ _, of_decide_eq_true b⟩
    · rename_i x t y q1 q2
      dsimp only at q2
      subst q2
      rw [← of_decide_eq_true h1, q1]
      exact ⟨keyIs_str _ _, hs x t q1⟩
    · cases h1
  refine ⟨hk.1, hk.2, ?_⟩
  split at h2
  · rename_i i t j q1 q2
    dsimp only at q2
    rw [q2, q1, ← of_decide_eq_true h2]
    exact ⟨t, rfl⟩
  · rename_i x t y q1 q2
    dsimp only at q2
    rw [q2, q1, ← of_decide_eq_true h2]
    exact ⟨t, rfl⟩
  · cases h2
theorem entsB_ok {P : Program} {w : World} : ∀ {es : List DictEntry} {kvs : List (Key × V)}, entsB es kvs = true → (∀ e ∈ es, ∀ x t, e.key = .str x t → e.hash = hashStr w x) →
    ∃ vs, KV kvs vs ∧ Pairs (mixKind P w) es vs ∧ vs.map (·.1) = kvs.map (·.1) ∧ ∀ e ∈ es, ∃ k, (mixKind P w).is k e.key = true ∧ e.hash = (mixKind P w).hash k
  | [], [], _, _ => ⟨[], .nil, .nil, rfl, fun e h => nomatch h⟩
  | e :: es, kv :: kvs, h, hs => by
    obtain ⟨h1, h2⟩ := ba h
    obtain ⟨a1, a2, a3⟩ := entB_ok (w := w) h1 (hs e (List.mem_cons_self ..))
    obtain ⟨vs, b1, b2, b3, b4⟩ := entsB_ok (P := P) (w := w) h2 fun e' he' => hs e' (List.mem_cons_of_mem _ he')
    refine ⟨(kv.1, e.val) :: vs, .cons ⟨rfl, a3⟩ b1, .cons a1 rfl b2, by rw [List.map_cons, List.map_cons, b3], fun e' he' => ?_⟩
    rcases List.mem_cons.mp he' with z | z
    · rw [z]
      exact ⟨kv.1, a1, a2⟩
    · exact b4 e' z
theorem entsB_noStr : ∀ {es : List DictEntry} {is : List (Int × V)}, entsB es (is.map fun p => (Sum.inl p.1, p.2)) = true → ∀ e ∈ es, ∀ x t, e.key ≠ .str x t
  | [], [], _, e, he, _, _, _ => nomatch he
  | [], _ :: _, h, _, _, _, _, _ => by cases h
  | _ :: _, [], h, _, _, _, _, _ => by cases h
  | e :: es, p :: is, h, e', he', x, t, hx => by
    obtain ⟨h1, h2⟩ := ba (show (entB e (Sum.inl p.1, p.2) && entsB es (is.map fun p => (Sum.inl p.1, p.2))) = true from h)
    rcases List.mem_cons.mp he' with z | z
    · rw [z] at hx
      obtain ⟨h1, _⟩ := ba h1
      rw [hx] at h1
      cases h1
    · exact entsB_noStr h2 e' z x t hx
theorem dicKB_ok {P : Program} {w : World} {K : PySem.W.Frag} {a : Addr} {kvs : List (Key × V)} {h : Heap} (c : dicKB K a kvs = true) (X : K.In h) (hs : ∀ oc od es n sl, K.lookup a = some ⟨oc, od, .dict es n, sl⟩ → ∀ e ∈ es.toList, ∀ x t, e.key = .str x t → e.hash = hashStr w x) :
    (a == sysModules) = false ∧ ∃ vs, KV kvs vs ∧ h.DictOf (mixKind P w) a vs := by
  unfold dicKB at c
  split at c
  · rename_i cl es n sl q
    obtain ⟨c1, c⟩ := ba c
    obtain ⟨c2, c⟩ := ba c
    obtain ⟨c3, c⟩ := ba c
    obtain ⟨c4, c5⟩ := ba c
    obtain ⟨vs, b1, b2, b3, b4⟩ := entsB_ok (P := P) (w := w) c4 (hs _ _ _ _ _ q)
    refine ⟨by simpa using c3, vs, b1, _, es, n, X _ _ q, ⟨?_, rfl, ?_⟩, rfl, fun e he => b4 e (Array.mem_toList_iff.mpr he), b2, ?_⟩
    · show Value.type cl = Value.type "dict"
      rw [of_decide_eq_true c1]
    · exact Array.isEmpty_iff.mp c2
    · rw [b3]
      exact of_decide_eq_true c5
  · cases c
/-- the same where all keys are ints -/
theorem dicKB_okI {P : Program} {w : World} {K : PySem.W.Frag} {a : Addr} {is : List (Int × V)} {h : Heap} (c : dicKB K a (is.map fun p => (Sum.inl p.1, p.2)) = true) (X : K.In h) :
    (a == sysModules) = false ∧ ∃ vs, KV (is.map fun p => (Sum.inl p.1, p.2)) vs ∧ h.DictOf (mixKind P w) a vs := by
  refine dicKB_ok c X fun oc od es n sl q e he x t hx => ?_
  unfold dicKB at c
  rw [q] at c
  split at c
  · rename_i z
    cases z
    obtain ⟨_, c⟩ := ba c
    obtain ⟨_, c⟩ := ba c
    obtain ⟨_, c⟩ := ba c
    obtain ⟨c4, _⟩ := ba c
    exact absurd hx (entsB_noStr c4 e he x t)
  · cases c
/-- dict(d), d a dict of the module -/
theorem call_dictK {X : Cx} {a : Addr} {kvs : List (Key × V)} (hz : kvs.length ≤ sizeLine) (c : ∀ h : Heap, X.K.In h → (a == sysModules) = false ∧ ∃ vs, KV kvs vs ∧ h.DictOf (mixKind X.prog X.w) a vs) :
    CallR X (.type "dict") (fun xs H Q => xs = [.ref a] ∧ ∀ p, H p = none → Q (.ref p) (upd H p (.dK kvs))) := by
  intro pins s σ H xs us Q I r h
  obtain ⟨ex, q⟩ := h
  subst ex
  obtain ⟨u, eu, rx⟩ := vals1 r
  subst eu
  cases rx
  obtain ⟨lo, vs, rel, dd⟩ := c s.heap I.kIn
  refine PySem.kt_call_dict lo dd (by rw [← rel.length]; exact hz) fun h' d' hs => ?_
  have hm : (s.heap.objs.size == sysModules) = false := beq_eq_false_iff_ne.mpr (Nat.ne_of_gt I.big)
  exact ⟨.ref s.heap.objs.size, upd H s.heap.objs.size (.dK kvs), I.laid (t' := s.toks) (fun b u e => (hs.2 b (Nat.ne_of_lt (Heap.lt_size e))).trans (Heap.get?_push_of_some _ e)) (Nat.le_refl _)
    (show ObjOk X.prog X.w _ _ _ (.dK kvs) from ⟨hz, hm, vs, rel, d'⟩), rfl, q _ (I.hok.fresh (Nat.le_refl _))⟩
/-- a method that a class has of another -/
def inhB (K : PySem.W.Frag) (l : List (Str × Str × Str)) : Bool := l.all fun t => decide (ma K (ga K t.1) t.2.2 = ma K (ga K t.2.1) t.2.2)
theorem inh_ok {K : PySem.W.Frag} {l : List (Str × Str × Str)} (h : inhB K l = true) {c b m : Str} (hm : (c, b, m) ∈ l) : ma K (ga K c) m = ma K (ga K b) m := of_decide_eq_true (List.all_eq_true.mp h _ hm)
/-- a class whose instances are told apart by identity, and of which isinstance is told -/
structure CmpC (K : PySem.W.Frag) (C : Addr) : Prop where
  ob : PySem.W.mroIn K C (.type "object") = some true
  eq : PySem.W.findIn K (.ref C) "__eq__" = some (some (.builtin "object.__eq__"))
  ha : PySem.W.findIn K (.ref C) "__class__" = some (some (.builtin "object.__class__"))
  hn : PySem.W.specialIn K (.builtin "object.__class__") "__get__" = some (some (.builtin "getset_descriptor.__get__"))
  htk : PySem.W.takesIn K (.builtin "object.__class__") = some true
def cmpB (K : PySem.W.Frag) (l : List Str) : Bool := eqO (PySem.W.specialIn K (.builtin "object.__class__") "__get__") (some (some (.builtin "getset_descriptor.__get__"))) && (decide (PySem.W.takesIn K (.builtin "object.__class__") = some true) &&
  l.all fun c => decide (PySem.W.mroIn K (ga K c) (.type "object") = some true) && (eqO (PySem.W.findIn K (.ref (ga K c)) "__eq__") (some (some (.builtin "object.__eq__"))) && eqO (PySem.W.findIn K (.ref (ga K c)) "__class__") (some (some (.builtin "object.__class__")))))
theorem cmp_ok {K : PySem.W.Frag} {l : List Str} (h : cmpB K l = true) {c : Str} (hm : c ∈ l) : CmpC K (ga K c) := by
  obtain ⟨h1, h⟩ := ba h
  obtain ⟨h2, h⟩ := ba h
  obtain ⟨h3, h⟩ := ba (List.all_eq_true.mp h _ hm)
  obtain ⟨h4, h5⟩ := ba h
  exact ⟨of_decide_eq_true h3, eqO_ok h4, eqO_ok h5, eqO_ok h1, of_decide_eq_true h2⟩
/-- isinstance of an instance: both answers -/
def kitsB (K : PySem.W.Frag) (l : List (Str × Value × Bool)) : Bool := l.all fun t => decide (PySem.W.kitOne K (.ref (ga K t.1)) t.2.1 = some t.2.2)
theorem kits_ok {K : PySem.W.Frag} {l : List (Str × Value × Bool)} (h : kitsB K l = true) {c : Str} {v : Value} {b : Bool} (hm : (c, v, b) ∈ l) : PySem.W.kitOne K (.ref (ga K c)) v = some b := of_decide_eq_true (List.all_eq_true.mp h _ hm)
end RyH
set_option maxHeartbeats 0
namespace Ry
open PySem PySem.Spec PyProof.Rows L2
def topS (i : Nat) : Stmt := PySem.Challenge.pw_recordyard_k71_deeds_told.main.body.getD i (.Pass ⟨0, 0, 0, 0⟩)
abbrev s_is_integer : Stmt := topS 33
def d_is_integer : He.DefD := ⟨("is_integer", none), "is_integer", "is_integer", defArgs s_is_integer, defBody s_is_integer, defScope s_is_integer, [], []⟩
abbrev s_name_end : Stmt := topS 38
def d_name_end : He.DefD := ⟨("name_end", none), "name_end", "name_end", defArgs s_name_end, defBody s_name_end, defScope s_name_end, [], []⟩
abbrev s_field_of : Stmt := topS 43
def d_field_of : He.DefD := ⟨("field_of", none), "field_of", "field_of", defArgs s_field_of, defBody s_field_of, defScope s_field_of, [], []⟩
abbrev s_parts_of_braces : Stmt := topS 44
def d_parts_of_braces : He.DefD := ⟨("parts_of_braces", none), "parts_of_braces", "parts_of_braces", defArgs s_parts_of_braces, defBody s_parts_of_braces, defScope s_parts_of_braces, [], []⟩
abbrev s_field_behind : Stmt := topS 56
def d_field_behind : He.DefD := ⟨("field_behind", none), "field_behind", "field_behind", defArgs s_field_behind, defBody s_field_behind, defScope s_field_behind, [], []⟩
abbrev s_parts_of_dollars : Stmt := topS 57
def d_parts_of_dollars : He.DefD := ⟨("parts_of_dollars", none), "parts_of_dollars", "parts_of_dollars", defArgs s_parts_of_dollars, defBody s_parts_of_dollars, defScope s_parts_of_dollars, [], []⟩
abbrev s_joined_texts : Stmt := topS 60
def d_joined_texts : He.DefD := ⟨("joined_texts", none), "joined_texts", "joined_texts", defArgs s_joined_texts, defBody s_joined_texts, defScope s_joined_texts, [], []⟩
abbrev s_is_part : Stmt := topS 70
def d_is_part : He.DefD := ⟨("is_part", none), "is_part", "is_part", defArgs s_is_part, defBody s_is_part, defScope s_is_part, [], []⟩
abbrev s_are_parts : Stmt := topS 71
def d_are_parts : He.DefD := ⟨("are_parts", none), "are_parts", "are_parts", defArgs s_are_parts, defBody s_are_parts, defScope s_are_parts, [], []⟩
abbrev s_parent_of : Stmt := topS 72
def d_parent_of : He.DefD := ⟨("parent_of", none), "parent_of", "parent_of", defArgs s_parent_of, defBody s_parent_of, defScope s_parent_of, [], []⟩
abbrev s_place_loggers : Stmt := topS 73
def d_place_loggers : He.DefD := ⟨("place_loggers", none), "place_loggers", "place_loggers", defArgs s_place_loggers, defBody s_place_loggers, defScope s_place_loggers, [], []⟩
abbrev s_deeds_of : Stmt := topS 78
def d_deeds_of : He.DefD := ⟨("deeds_of", none), "deeds_of", "deeds_of", defArgs s_deeds_of, defBody s_deeds_of, defScope s_deeds_of, [], []⟩
abbrev s_deeds : Stmt := topS 79
def d_deeds : He.DefD := ⟨("deeds", none), "deeds", "deeds", defArgs s_deeds, defBody s_deeds, defScope s_deeds, [], []⟩
abbrev s_law_draw : Stmt := topS 81
def d_law_draw : He.DefD := ⟨("_law_draw", none), "_law_draw", "_law_draw", defArgs s_law_draw, defBody s_law_draw, defScope s_law_draw, [], []⟩
abbrev s_law_pick : Stmt := topS 82
def d_law_pick : He.DefD := ⟨("_law_pick", none), "_law_pick", "_law_pick", defArgs s_law_pick, defBody s_law_pick, defScope s_law_pick, [], []⟩
abbrev s_law_format : Stmt := topS 83
def d_law_format : He.DefD := ⟨("_law_format", none), "_law_format", "_law_format", defArgs s_law_format, defBody s_law_format, defScope s_law_format, [], []⟩
abbrev s_law_format_text : Stmt := topS 84
def d_law_format_text : He.DefD := ⟨("_law_format_text", none), "_law_format_text", "_law_format_text", defArgs s_law_format_text, defBody s_law_format_text, defScope s_law_format_text, [], []⟩
abbrev s_law_has_field : Stmt := topS 85
def d_law_has_field : He.DefD := ⟨("_law_has_field", none), "_law_has_field", "_law_has_field", defArgs s_law_has_field, defBody s_law_has_field, defScope s_law_has_field, [], []⟩
abbrev s_law_level : Stmt := topS 86
def d_law_level : He.DefD := ⟨("_law_level", none), "_law_level", "_law_level", defArgs s_law_level, defBody s_law_level, defScope s_law_level, [], []⟩
abbrev s_law_names : Stmt := topS 87
def d_law_names : He.DefD := ⟨("_law_names", none), "_law_names", "_law_names", defArgs s_law_names, defBody s_law_names, defScope s_law_names, [], []⟩
abbrev s_law_handler_plan : Stmt := topS 88
def d_law_handler_plan : He.DefD := ⟨("_law_handler_plan", none), "_law_handler_plan", "_law_handler_plan", defArgs s_law_handler_plan, defBody s_law_handler_plan, defScope s_law_handler_plan, [], []⟩
abbrev s_law_logger_plan : Stmt := topS 89
def d_law_logger_plan : He.DefD := ⟨("_law_logger_plan", none), "_law_logger_plan", "_law_logger_plan", defArgs s_law_logger_plan, defBody s_law_logger_plan, defScope s_law_logger_plan, [], []⟩
abbrev s_law_plan : Stmt := topS 90
def d_law_plan : He.DefD := ⟨("_law_plan", none), "_law_plan", "_law_plan", defArgs s_law_plan, defBody s_law_plan, defScope s_law_plan, [], []⟩
abbrev s_law_handler : Stmt := topS 91
def d_law_handler : He.DefD := ⟨("_law_handler", none), "_law_handler", "_law_handler", defArgs s_law_handler, defBody s_law_handler, defScope s_law_handler, [], []⟩
abbrev s_law_yard : Stmt := topS 92
def d_law_yard : He.DefD := ⟨("_law_yard", none), "_law_yard", "_law_yard", defArgs s_law_yard, defBody s_law_yard, defScope s_law_yard, [], []⟩
abbrev s_law_copied : Stmt := topS 93
def d_law_copied : He.DefD := ⟨("_law_copied", none), "_law_copied", "_law_copied", defArgs s_law_copied, defBody s_law_copied, defScope s_law_copied, [], []⟩
abbrev s_law_row_deeds : Stmt := topS 94
def d_law_row_deeds : He.DefD := ⟨("_law_row_deeds", none), "_law_row_deeds", "_law_row_deeds", defArgs s_law_row_deeds, defBody s_law_row_deeds, defScope s_law_row_deeds, [], []⟩
abbrev s_law_deeds : Stmt := topS 95
def d_law_deeds : He.DefD := ⟨("_law_deeds", none), "_law_deeds", "_law_deeds", defArgs s_law_deeds, defBody s_law_deeds, defScope s_law_deeds, [], []⟩
abbrev s_law_odd : Stmt := topS 98
def d_law_odd : He.DefD := ⟨("_law_odd", none), "_law_odd", "_law_odd", defArgs s_law_odd, defBody s_law_odd, defScope s_law_odd, [], []⟩
abbrev s_law : Stmt := topS 99
def d_law : He.DefD := ⟨("law", none), "law", "law", defArgs s_law, defBody s_law, defScope s_law, [], []⟩
abbrev s_Filter_init : Stmt := inClass (topS 18) 0
def d_Filter_init : He.DefD := ⟨("Filter", some "__init__"), "__init__", "Filter.__init__", defArgs s_Filter_init, defBody s_Filter_init, defScope s_Filter_init, [.str ""], []⟩
abbrev s_Filterer_init : Stmt := inClass (topS 19) 0
def d_Filterer_init : He.DefD := ⟨("Filterer", some "__init__"), "__init__", "Filterer.__init__", defArgs s_Filterer_init, defBody s_Filterer_init, defScope s_Filterer_init, [], []⟩
abbrev s_Filterer_addFilter : Stmt := inClass (topS 19) 1
def d_Filterer_addFilter : He.DefD := ⟨("Filterer", some "addFilter"), "addFilter", "Filterer.addFilter", defArgs s_Filterer_addFilter, defBody s_Filterer_addFilter, defScope s_Filterer_addFilter, [], []⟩
abbrev s_Handler_init : Stmt := inClass (topS 21) 0
def d_Handler_init : He.DefD := ⟨("Handler", some "__init__"), "__init__", "Handler.__init__", defArgs s_Handler_init, defBody s_Handler_init, defScope s_Handler_init, [], []⟩
abbrev s_Handler_setLevel : Stmt := inClass (topS 21) 1
def d_Handler_setLevel : He.DefD := ⟨("Handler", some "setLevel"), "setLevel", "Handler.setLevel", defArgs s_Handler_setLevel, defBody s_Handler_setLevel, defScope s_Handler_setLevel, [], []⟩
abbrev s_Handler_setFormatter : Stmt := inClass (topS 21) 2
def d_Handler_setFormatter : He.DefD := ⟨("Handler", some "setFormatter"), "setFormatter", "Handler.setFormatter", defArgs s_Handler_setFormatter, defBody s_Handler_setFormatter, defScope s_Handler_setFormatter, [], []⟩
abbrev s_Handler_setTerminator : Stmt := inClass (topS 21) 3
def d_Handler_setTerminator : He.DefD := ⟨("Handler", some "setTerminator"), "setTerminator", "Handler.setTerminator", defArgs s_Handler_setTerminator, defBody s_Handler_setTerminator, defScope s_Handler_setTerminator, [], []⟩
abbrev s_StreamHandler_init : Stmt := inClass (topS 22) 0
def d_StreamHandler_init : He.DefD := ⟨("StreamHandler", some "__init__"), "__init__", "StreamHandler.__init__", defArgs s_StreamHandler_init, defBody s_StreamHandler_init, defScope s_StreamHandler_init, [.str "stderr"], []⟩
abbrev s_Field_init : Stmt := inClass (topS 37) 0
def d_Field_init : He.DefD := ⟨("Field", some "__init__"), "__init__", "Field.__init__", defArgs s_Field_init, defBody s_Field_init, defScope s_Field_init, [.str "", .str " ", .str "", .int (0)], []⟩
abbrev s_Formatter_init : Stmt := inClass (topS 61) 0
def d_Formatter_init : He.DefD := ⟨("Formatter", some "__init__"), "__init__", "Formatter.__init__", defArgs s_Formatter_init, defBody s_Formatter_init, defScope s_Formatter_init, [.non, .str "{", .bl true, .non], []⟩
abbrev s_MemoryHandler_init : Stmt := inClass (topS 63) 0
def d_MemoryHandler_init : He.DefD := ⟨("MemoryHandler", some "__init__"), "__init__", "MemoryHandler.__init__", defArgs s_MemoryHandler_init, defBody s_MemoryHandler_init, defScope s_MemoryHandler_init, [.int (40), .non, .bl true], []⟩
abbrev s_Queue_init : Stmt := inClass (topS 65) 0
def d_Queue_init : He.DefD := ⟨("Queue", some "__init__"), "__init__", "Queue.__init__", defArgs s_Queue_init, defBody s_Queue_init, defScope s_Queue_init, [], []⟩
abbrev s_QueueHandler_init : Stmt := inClass (topS 67) 0
def d_QueueHandler_init : He.DefD := ⟨("QueueHandler", some "__init__"), "__init__", "QueueHandler.__init__", defArgs s_QueueHandler_init, defBody s_QueueHandler_init, defScope s_QueueHandler_init, [], []⟩
abbrev s_Logger_init : Stmt := inClass (topS 74) 0
def d_Logger_init : He.DefD := ⟨("Logger", some "__init__"), "__init__", "Logger.__init__", defArgs s_Logger_init, defBody s_Logger_init, defScope s_Logger_init, [], []⟩
abbrev s_Logger_setLevel : Stmt := inClass (topS 74) 1
def d_Logger_setLevel : He.DefD := ⟨("Logger", some "setLevel"), "setLevel", "Logger.setLevel", defArgs s_Logger_setLevel, defBody s_Logger_setLevel, defScope s_Logger_setLevel, [], []⟩
abbrev s_Logger_setPropagate : Stmt := inClass (topS 74) 2
def d_Logger_setPropagate : He.DefD := ⟨("Logger", some "setPropagate"), "setPropagate", "Logger.setPropagate", defArgs s_Logger_setPropagate, defBody s_Logger_setPropagate, defScope s_Logger_setPropagate, [], []⟩
abbrev s_Logger_setDisabled : Stmt := inClass (topS 74) 3
def d_Logger_setDisabled : He.DefD := ⟨("Logger", some "setDisabled"), "setDisabled", "Logger.setDisabled", defArgs s_Logger_setDisabled, defBody s_Logger_setDisabled, defScope s_Logger_setDisabled, [], []⟩
abbrev s_Logger_addHandler : Stmt := inClass (topS 74) 9
def d_Logger_addHandler : He.DefD := ⟨("Logger", some "addHandler"), "addHandler", "Logger.addHandler", defArgs s_Logger_addHandler, defBody s_Logger_addHandler, defScope s_Logger_addHandler, [], []⟩
abbrev s_Yard_init : Stmt := inClass (topS 76) 0
def d_Yard_init : He.DefD := ⟨("Yard", some "__init__"), "__init__", "Yard.__init__", defArgs s_Yard_init, defBody s_Yard_init, defScope s_Yard_init, [.int (0)], []⟩
abbrev s_Yard_add_level_name : Stmt := inClass (topS 76) 15
def d_Yard_add_level_name : He.DefD := ⟨("Yard", some "add_level_name"), "add_level_name", "Yard.add_level_name", defArgs s_Yard_add_level_name, defBody s_Yard_add_level_name, defScope s_Yard_add_level_name, [], []⟩
abbrev s_Yard_level_of : Stmt := inClass (topS 76) 18
def d_Yard_level_of : He.DefD := ⟨("Yard", some "level_of"), "level_of", "Yard.level_of", defArgs s_Yard_level_of, defBody s_Yard_level_of, defScope s_Yard_level_of, [], []⟩
abbrev s_Yard_getLogger : Stmt := inClass (topS 76) 20
def d_Yard_getLogger : He.DefD := ⟨("Yard", some "getLogger"), "getLogger", "Yard.getLogger", defArgs s_Yard_getLogger, defBody s_Yard_getLogger, defScope s_Yard_getLogger, [.str ""], []⟩
abbrev s_Yard_loggers : Stmt := inClass (topS 76) 21
def d_Yard_loggers : He.DefD := ⟨("Yard", some "loggers"), "loggers", "Yard.loggers", defArgs s_Yard_loggers, defBody s_Yard_loggers, defScope s_Yard_loggers, [], []⟩
abbrev s_Yard_disable : Stmt := inClass (topS 76) 22
def d_Yard_disable : He.DefD := ⟨("Yard", some "disable"), "disable", "Yard.disable", defArgs s_Yard_disable, defBody s_Yard_disable, defScope s_Yard_disable, [.int (50)], []⟩
abbrev s_Yard_enrol : Stmt := inClass (topS 76) 24
def d_Yard_enrol : He.DefD := ⟨("Yard", some "enrol"), "enrol", "Yard.enrol", defArgs s_Yard_enrol, defBody s_Yard_enrol, defScope s_Yard_enrol, [], []⟩
def fn0 : List He.DefD := [d_is_integer, d_name_end, d_field_of, d_parts_of_braces, d_field_behind, d_parts_of_dollars, d_joined_texts, d_is_part, d_are_parts, d_parent_of, d_place_loggers, d_deeds_of, d_deeds, d_law_draw, d_law_pick, d_law_format, d_law_format_text, d_law_has_field, d_law_level, d_law_names]
def fn1 : List He.DefD := [d_law_handler_plan, d_law_logger_plan, d_law_plan, d_law_handler, d_law_yard, d_law_copied, d_law_row_deeds, d_law_deeds, d_law_odd, d_law, d_Filter_init, d_Filterer_init, d_Filterer_addFilter, d_Handler_init, d_Handler_setLevel, d_Handler_setFormatter, d_Handler_setTerminator, d_StreamHandler_init, d_Field_init, d_Formatter_init]
def fn2 : List He.DefD := [d_MemoryHandler_init, d_Queue_init, d_QueueHandler_init, d_Logger_init, d_Logger_setLevel, d_Logger_setPropagate, d_Logger_setDisabled, d_Logger_addHandler, d_Yard_init, d_Yard_add_level_name, d_Yard_level_of, d_Yard_getLogger, d_Yard_loggers, d_Yard_disable, d_Yard_enrol]
def fn : List He.DefD := fn0 ++ (fn1 ++ (fn2))
def fa0 : List He.Fa := [.glo "Filter", .cls "Filter", .mkr "Filter", .noat "Filter" "name", .glo "Filterer", .cls "Filterer", .mkr "Filterer", .meth "Filterer" "addFilter", .noat "Filterer" "filters", .glo "Handler", .cls "Handler", .mkr "Handler", .meth "Handler" "setLevel", .meth "Handler" "setFormatter", .meth "Handler" "setTerminator", .meth "Handler" "addFilter", .noat "Handler" "filters", .noat "Handler" "yard", .noat "Handler" "level", .noat "Handler" "formatter", .noat "Handler" "name", .noat "Handler" "terminator", .noat "Handler" "closed", .glo "StreamHandler", .cls "StreamHandler", .mkr "StreamHandler", .meth "StreamHandler" "setLevel", .meth "StreamHandler" "setFormatter", .meth "StreamHandler" "setTerminator", .meth "StreamHandler" "addFilter"]
def fa1 : List He.Fa := [.noat "StreamHandler" "filters", .noat "StreamHandler" "yard", .noat "StreamHandler" "level", .noat "StreamHandler" "formatter", .noat "StreamHandler" "name", .noat "StreamHandler" "terminator", .noat "StreamHandler" "closed", .noat "StreamHandler" "stream", .glo "NullHandler", .cls "NullHandler", .mkr "NullHandler", .meth "NullHandler" "setLevel", .meth "NullHandler" "setFormatter", .meth "NullHandler" "setTerminator", .meth "NullHandler" "addFilter", .noat "NullHandler" "filters", .noat "NullHandler" "yard", .noat "NullHandler" "level", .noat "NullHandler" "formatter", .noat "NullHandler" "name", .noat "NullHandler" "terminator", .noat "NullHandler" "closed", .glo "Field", .cls "Field", .mkr "Field", .noat "Field" "name", .noat "Field" "conversion", .noat "Field" "fill", .noat "Field" "align", .noat "Field" "width"]
def fa2 : List He.Fa := [.glo "Formatter", .cls "Formatter", .mkr "Formatter", .noat "Formatter" "fmt", .noat "Formatter" "style", .noat "Formatter" "parts", .noat "Formatter" "defaults", .glo "MemoryHandler", .cls "MemoryHandler", .mkr "MemoryHandler", .meth "MemoryHandler" "setLevel", .meth "MemoryHandler" "setFormatter", .meth "MemoryHandler" "setTerminator", .meth "MemoryHandler" "addFilter", .noat "MemoryHandler" "filters", .noat "MemoryHandler" "yard", .noat "MemoryHandler" "level", .noat "MemoryHandler" "formatter", .noat "MemoryHandler" "name", .noat "MemoryHandler" "terminator", .noat "MemoryHandler" "closed", .noat "MemoryHandler" "capacity", .noat "MemoryHandler" "flush_level", .noat "MemoryHandler" "target", .noat "MemoryHandler" "flush_on_close", .noat "MemoryHandler" "kept", .glo "Queue", .cls "Queue", .mkr "Queue", .noat "Queue" "waiting"]
def fa3 : List He.Fa := [.glo "QueueHandler", .cls "QueueHandler", .mkr "QueueHandler", .meth "QueueHandler" "setLevel", .meth "QueueHandler" "setFormatter", .meth "QueueHandler" "setTerminator", .meth "QueueHandler" "addFilter", .noat "QueueHandler" "filters", .noat "QueueHandler" "yard", .noat "QueueHandler" "level", .noat "QueueHandler" "formatter", .noat "QueueHandler" "name", .noat "QueueHandler" "terminator", .noat "QueueHandler" "closed", .noat "QueueHandler" "queue", .noat "QueueHandler" "listener", .glo "Logger", .cls "Logger", .mkr "Logger", .meth "Logger" "setLevel", .meth "Logger" "setPropagate", .meth "Logger" "setDisabled", .meth "Logger" "addHandler", .meth "Logger" "addFilter", .noat "Logger" "filters", .noat "Logger" "yard", .noat "Logger" "name", .noat "Logger" "level", .noat "Logger" "propagate", .noat "Logger" "disabled"]
def fa4 : List He.Fa := [.noat "Logger" "handlers", .noat "Logger" "parent", .glo "Yard", .cls "Yard", .mkr "Yard", .meth "Yard" "add_level_name", .meth "Yard" "level_of", .meth "Yard" "getLogger", .meth "Yard" "loggers", .meth "Yard" "disable", .meth "Yard" "enrol", .noat "Yard" "clock", .noat "Yard" "stream_texts", .noat "Yard" "file_rows", .noat "Yard" "names_of", .noat "Yard" "numbers_of", .noat "Yard" "bar_level", .noat "Yard" "logger_map", .noat "Yard" "made", .noat "Yard" "handler_names", .noat "Yard" "failure_rows", .noat "Yard" "root", .noat "Yard" "last_resort", .glo "is_integer", .glo "name_end", .glo "field_of", .glo "parts_of_braces", .glo "field_behind", .glo "parts_of_dollars", .glo "joined_texts"]
def fa5 : List He.Fa := [.glo "is_part", .glo "are_parts", .glo "parent_of", .glo "place_loggers", .glo "deeds_of", .glo "deeds", .glo "_law_draw", .glo "_law_pick", .glo "_law_format", .glo "_law_format_text", .glo "_law_has_field", .glo "_law_level", .glo "_law_names", .glo "_law_handler_plan", .glo "_law_logger_plan", .glo "_law_plan", .glo "_law_handler", .glo "_law_yard", .glo "_law_copied", .glo "_law_row_deeds", .glo "_law_deeds", .glo "_law_odd", .glo "law", .int "CRITICAL" (50), .int "WARNING" (30), .int "NOTSET" (0), .glo "FIRST_NAMES", .glo "FIRST_NUMBERS", .str "LETTERS" "abcdefghijklmnopqrstuvwxyzABCDEFGHIJKLMNOPQRSTUVWXYZ_", .str "DIGITS" "0123456789"]
def fa6 : List He.Fa := [.glo "MESSAGE_ALONE", .str "SIGNS" "abcdefghijklmnopqrstuvwxyzABCDEFGHIJKLMNOPQRSTUVWXYZ0123456789_", .free "len", .free "isinstance", .free "int", .free "str", .free "bool", .free "sorted", .free "list", .free "dict", .free "tuple", .free "range", .free "enumerate", .free "all", .free "any", .free "max", .free "repr"]
def fa : List He.Fa := fa0 ++ (fa1 ++ (fa2 ++ (fa3 ++ (fa4 ++ (fa5 ++ (fa6))))))
def names0 : List PySem.Str := ["_wall", "YardError", "BadLevel", "BadName", "BadExtra", "BadMessage", "BadField", "BadFormat", "BadStyle", "OWN_FIELDS", "copied_value", "message_of", "LogRecord", "is_below", "let_by", "Filter", "Filterer", "Handler", "StreamHandler", "NullHandler", "CRITICAL", "ERROR", "WARNING", "INFO", "DEBUG", "NOTSET", "FIRST_NAMES", "FIRST_NUMBERS", "is_integer", "LETTERS"]
def names1 : List PySem.Str := ["DIGITS", "Field", "name_end", "ALIGNS", "is_width", "spec_of", "field_of", "parts_of_braces", "DAY", "MONTHS", "is_leap", "first_day", "date_of", "padded", "date_text", "clock_parts", "shown_time", "field_behind", "parts_of_dollars", "MESSAGE_ALONE", "joined_texts", "Formatter", "MemoryHandler", "Queue", "prepared", "QueueHandler", "SIGNS", "is_part", "are_parts", "parent_of"]
def names2 : List PySem.Str := ["place_loggers", "Logger", "Yard", "deeds_of", "deeds", "_law_draw", "_law_pick", "_law_format", "_law_format_text", "_law_has_field", "_law_level", "_law_names", "_law_handler_plan", "_law_logger_plan", "_law_plan", "_law_handler", "_law_yard", "_law_copied", "_law_row_deeds", "_law_deeds", "_law_without", "_law_deed_done", "_law_odd"]
def names : List PySem.Str := names0 ++ (names1 ++ (names2))
def need0 : RyH.Need := [("Filter", ["__init__"]), ("Filterer", ["__init__", "addFilter"]), ("Handler", ["__init__", "setLevel", "setFormatter", "setTerminator"]), ("StreamHandler", ["__init__"]), ("NullHandler", []), ("Field", ["__init__"]), ("Formatter", ["__init__"]), ("MemoryHandler", ["__init__"]), ("Queue", ["__init__"]), ("QueueHandler", ["__init__"]), ("Logger", ["__init__", "setLevel", "setPropagate", "setDisabled", "addHandler"]), ("Yard", ["__init__", "add_level_name", "level_of", "getLogger", "loggers", "disable", "enrol"]), ("is_integer", []), ("name_end", []), ("field_of", []), ("parts_of_braces", []), ("field_behind", []), ("parts_of_dollars", []), ("joined_texts", []), ("is_part", [])]
def need1 : RyH.Need := [("are_parts", []), ("parent_of", []), ("place_loggers", []), ("deeds_of", []), ("deeds", []), ("_law_draw", []), ("_law_pick", []), ("_law_format", []), ("_law_format_text", []), ("_law_has_field", []), ("_law_level", []), ("_law_names", []), ("_law_handler_plan", []), ("_law_logger_plan", []), ("_law_plan", []), ("_law_handler", []), ("_law_yard", []), ("_law_copied", []), ("_law_row_deeds", []), ("_law_deeds", [])]
def need2 : RyH.Need := [("_law_odd", []), ("law", []), ("CRITICAL", []), ("WARNING", []), ("NOTSET", []), ("FIRST_NAMES", []), ("FIRST_NUMBERS", []), ("LETTERS", []), ("DIGITS", []), ("MESSAGE_ALONE", []), ("SIGNS", [])]
def need : RyH.Need := need0 ++ (need1 ++ (need2))
def lawPlace : Nat := 99
open He RyH
def kvNames : List (Key × V) := ([(50, .str "CRITICAL"), (40, .str "ERROR"), (30, .str "WARNING"), (20, .str "INFO"), (10, .str "DEBUG"), (0, .str "NOTSET")] : List (Int × V)).map fun p => (Sum.inl p.1, p.2)
def kvNumbers : List (Key × V) := [(.inr "CRITICAL", .int 50), (.inr "FATAL", .int 50), (.inr "ERROR", .int 40), (.inr "WARNING", .int 30), (.inr "WARN", .int 30), (.inr "INFO", .int 20), (.inr "DEBUG", .int 10), (.inr "NOTSET", .int 0)]
def kvAlone : List (Key × V) := [(.inr "{", .str "{message}"), (.inr "$", .str "$message")]
def inhs : List (Str × Str × Str) := [("Handler", "Filterer", "addFilter"), ("StreamHandler", "Handler", "setLevel"), ("StreamHandler", "Handler", "setFormatter"), ("StreamHandler", "Handler", "setTerminator"), ("StreamHandler", "Filterer", "addFilter"), ("NullHandler", "Handler", "__init__"), ("NullHandler", "Handler", "setLevel"), ("NullHandler", "Handler", "setFormatter"), ("NullHandler", "Handler", "setTerminator"), ("NullHandler", "Filterer", "addFilter"), ("MemoryHandler", "Handler", "setLevel"), ("MemoryHandler", "Handler", "setFormatter"), ("MemoryHandler", "Handler", "setTerminator"), ("MemoryHandler", "Filterer", "addFilter"), ("QueueHandler", "Handler", "setLevel"), ("QueueHandler", "Handler", "setFormatter"), ("QueueHandler", "Handler", "setTerminator"), ("QueueHandler", "Filterer", "addFilter"), ("Logger", "Filterer", "addFilter")]
def cmps : List Str := ["Filter", "StreamHandler", "NullHandler", "Field", "Formatter", "MemoryHandler", "Queue", "QueueHandler", "Logger", "Yard"]
def kits : List (Str × Value × Bool) := [("Field", .type "str", false), ("Field", .type "int", false), ("Field", .type "bool", false), ("Field", .type "tuple", false), ("Field", .type "list", false)]
def ex (K : PySem.W.Frag) : Bool := cfnB K "Filterer" "__init__" && (cfnB K "Handler" "__init__" && (dicKB K (ga K "FIRST_NAMES") kvNames && (dicKB K (ga K "FIRST_NUMBERS") kvNumbers && (dicKB K (ga K "MESSAGE_ALONE") kvAlone && (inhB K inhs && (cmpB K cmps && kitsB K kits))))))
def ts : List Tab := [(fun K => ga K "FIRST_NUMBERS", ["CRITICAL", "FATAL", "ERROR", "WARNING", "WARN", "INFO", "DEBUG", "NOTSET"]), (fun K => ga K "MESSAGE_ALONE", ["{", "$"])]
structure Txt (w : World) (K : PySem.W.Frag) (mg : Str → Option Value) : Prop where
  says : SaysT fa fn ts w K
  more : ex K = true
  at_ : ∃ h : Heap, K.In h ∧ h.Ns mainGlobals mg
namespace Txt
variable {w : World} {K : PySem.W.Frag} {mg : Str → Option Value}
theorem glo (T : Txt w K mg) {x : Str} (c : (Fa.glo x).ok K = true) : mg x = some (.ref (ga K x)) := let ⟨_, X, G⟩ := T.at_; glo_ok X G c
theorem free (T : Txt w K mg) {x : Str} (c : (Fa.free x).ok K = true) : mg x = none := let ⟨_, X, G⟩ := T.at_; free_ok X G c
theorem intc (T : Txt w K mg) {x : Str} {i : Int} (c : (Fa.int x i).ok K = true) : ∃ u, mg x = some u ∧ RelV (.int i) u := let ⟨_, X, G⟩ := T.at_; let ⟨t, e⟩ := int_ok X G c; ⟨_, e, t, rfl⟩
theorem strc (T : Txt w K mg) {x z : Str} (c : (Fa.str x z).ok K = true) : ∃ u, mg x = some u ∧ RelV (.str z) u := let ⟨_, X, G⟩ := T.at_; let ⟨t, e⟩ := str_ok X G c; ⟨_, e, t, rfl⟩
theorem m_Filter (T : Txt w K mg) : mg "Filter" = some (.ref (ga K "Filter")) := T.glo (T.says.d.fact 0 (f := .glo "Filter"))
theorem gv_Filter (T : Txt w K mg) : ∃ u, mg "Filter" = some u ∧ RelV (.ref (ga K "Filter")) u := ⟨_, T.m_Filter, rfl⟩
theorem cl_Filter (T : Txt w K mg) : Cls K (ga K "Filter") := cls_ok (T.says.d.fact 1 (f := .cls "Filter"))
theorem mk_Filter (T : Txt w K mg) : Mk K (ga K "Filter") (ma K (ga K "Filter") "__init__") := mkr_ok (T.says.d.fact 2 (f := .mkr "Filter"))
theorem no_Filter_name (T : Txt w K mg) : NoAttr K (ga K "Filter") "name" := noat_ok (T.says.d.fact 3 (f := .noat "Filter" "name"))
theorem m_Filterer (T : Txt w K mg) : mg "Filterer" = some (.ref (ga K "Filterer")) := T.glo (T.says.d.fact 4 (f := .glo "Filterer"))
theorem gv_Filterer (T : Txt w K mg) : ∃ u, mg "Filterer" = some u ∧ RelV (.ref (ga K "Filterer")) u := ⟨_, T.m_Filterer, rfl⟩
theorem cl_Filterer (T : Txt w K mg) : Cls K (ga K "Filterer") := cls_ok (T.says.d.fact 5 (f := .cls "Filterer"))
theorem mk_Filterer (T : Txt w K mg) : Mk K (ga K "Filterer") (ma K (ga K "Filterer") "__init__") := mkr_ok (T.says.d.fact 6 (f := .mkr "Filterer"))
theorem me_Filterer_addFilter (T : Txt w K mg) : Meth K (ga K "Filterer") "addFilter" (ma K (ga K "Filterer") "addFilter") := meth_ok (T.says.d.fact 7 (f := .meth "Filterer" "addFilter"))
theorem no_Filterer_filters (T : Txt w K mg) : NoAttr K (ga K "Filterer") "filters" := noat_ok (T.says.d.fact 8 (f := .noat "Filterer" "filters"))
theorem m_Handler (T : Txt w K mg) : mg "Handler" = some (.ref (ga K "Handler")) := T.glo (T.says.d.fact 9 (f := .glo "Handler"))
theorem gv_Handler (T : Txt w K mg) : ∃ u, mg "Handler" = some u ∧ RelV (.ref (ga K "Handler")) u := ⟨_, T.m_Handler, rfl⟩
theorem cl_Handler (T : Txt w K mg) : Cls K (ga K "Handler") := cls_ok (T.says.d.fact 10 (f := .cls "Handler"))
theorem mk_Handler (T : Txt w K mg) : Mk K (ga K "Handler") (ma K (ga K "Handler") "__init__") := mkr_ok (T.says.d.fact 11 (f := .mkr "Handler"))
theorem me_Handler_setLevel (T : Txt w K mg) : Meth K (ga K "Handler") "setLevel" (ma K (ga K "Handler") "setLevel") := meth_ok (T.says.d.fact 12 (f := .meth "Handler" "setLevel"))
theorem me_Handler_setFormatter (T : Txt w K mg) : Meth K (ga K "Handler") "setFormatter" (ma K (ga K "Handler") "setFormatter") := meth_ok (T.says.d.fact 13 (f := .meth "Handler" "setFormatter"))
theorem me_Handler_setTerminator (T : Txt w K mg) : Meth K (ga K "Handler") "setTerminator" (ma K (ga K "Handler") "setTerminator") := meth_ok (T.says.d.fact 14 (f := .meth "Handler" "setTerminator"))
theorem me_Handler_addFilter (T : Txt w K mg) : Meth K (ga K "Handler") "addFilter" (ma K (ga K "Handler") "addFilter") := meth_ok (T.says.d.fact 15 (f := .meth "Handler" "addFilter"))
theorem no_Handler_filters (T : Txt w K mg) : NoAttr K (ga K "Handler") "filters" := noat_ok (T.says.d.fact 16 (f := .noat "Handler" "filters"))
theorem no_Handler_yard (T : Txt w K mg) : NoAttr K (ga K "Handler") "yard" := noat_ok (T.says.d.fact 17 (f := .noat "Handler" "yard"))
theorem no_Handler_level (T : Txt w K mg) : NoAttr K (ga K "Handler") "level" := noat_ok (T.says.d.fact 18 (f := .noat "Handler" "level"))
theorem no_Handler_formatter (T : Txt w K mg) : NoAttr K (ga K "Handler") "formatter" := noat_ok (T.says.d.fact 19 (f := .noat "Handler" "formatter"))
theorem no_Handler_name (T : Txt w K mg) : NoAttr K (ga K "Handler") "name" := noat_ok (T.says.d.fact 20 (f := .noat "Handler" "name"))
theorem no_Handler_terminator (T : Txt w K mg) : NoAttr K (ga K "Handler") "terminator" := noat_ok (T.says.d.fact 21 (f := .noat "Handler" "terminator"))
theorem no_Handler_closed (T : Txt w K mg) : NoAttr K (ga K "Handler") "closed" := noat_ok (T.says.d.fact 22 (f := .noat "Handler" "closed"))
theorem m_StreamHandler (T : Txt w K mg) : mg "StreamHandler" = some (.ref (ga K "StreamHandler")) := T.glo (T.says.d.fact 23 (f := .glo "StreamHandler"))
theorem gv_StreamHandler (T : Txt w K mg) : ∃ u, mg "StreamHandler" = some u ∧ RelV (.ref (ga K "StreamHandler")) u := ⟨_, T.m_StreamHandler, rfl⟩
theorem cl_StreamHandler (T : Txt w K mg) : Cls K (ga K "StreamHandler") := cls_ok (T.says.d.fact 24 (f := .cls "StreamHandler"))
theorem mk_StreamHandler (T : Txt w K mg) : Mk K (ga K "StreamHandler") (ma K (ga K "StreamHandler") "__init__") := mkr_ok (T.says.d.fact 25 (f := .mkr "StreamHandler"))
theorem me_StreamHandler_setLevel (T : Txt w K mg) : Meth K (ga K "StreamHandler") "setLevel" (ma K (ga K "StreamHandler") "setLevel") := meth_ok (T.says.d.fact 26 (f := .meth "StreamHandler" "setLevel"))
theorem me_StreamHandler_setFormatter (T : Txt w K mg) : Meth K (ga K "StreamHandler") "setFormatter" (ma K (ga K "StreamHandler") "setFormatter") := meth_ok (T.says.d.fact 27 (f := .meth "StreamHandler" "setFormatter"))
theorem me_StreamHandler_setTerminator (T : Txt w K mg) : Meth K (ga K "StreamHandler") "setTerminator" (ma K (ga K "StreamHandler") "setTerminator") := meth_ok (T.says.d.fact 28 (f := .meth "StreamHandler" "setTerminator"))
theorem me_StreamHandler_addFilter (T : Txt w K mg) : Meth K (ga K "StreamHandler") "addFilter" (ma K (ga K "StreamHandler") "addFilter") := meth_ok (T.says.d.fact 29 (f := .meth "StreamHandler" "addFilter"))
theorem no_StreamHandler_filters (T : Txt w K mg) : NoAttr K (ga K "StreamHandler") "filters" := noat_ok (T.says.d.fact 30 (f := .noat "StreamHandler" "filters"))
theorem no_StreamHandler_yard (T : Txt w K mg) : NoAttr K (ga K "StreamHandler") "yard" := noat_ok (T.says.d.fact 31 (f := .noat "StreamHandler" "yard"))
theorem no_StreamHandler_level (T : Txt w K mg) : NoAttr K (ga K "StreamHandler") "level" := noat_ok (T.says.d.fact 32 (f := .noat "StreamHandler" "level"))
theorem no_StreamHandler_formatter (T : Txt w K mg) : NoAttr K (ga K "StreamHandler") "formatter" := noat_ok (T.says.d.fact 33 (f := .noat "StreamHandler" "formatter"))
theorem no_StreamHandler_name (T : Txt w K mg) : NoAttr K (ga K "StreamHandler") "name" := noat_ok (T.says.d.fact 34 (f := .noat "StreamHandler" "name"))
theorem no_StreamHandler_terminator (T : Txt w K mg) : NoAttr K (ga K "StreamHandler") "terminator" := noat_ok (T.says.d.fact 35 (f := .noat "StreamHandler" "terminator"))
theorem no_StreamHandler_closed (T : Txt w K mg) : NoAttr K (ga K "StreamHandler") "closed" := noat_ok (T.says.d.fact 36 (f := .noat "StreamHandler" "closed"))
theorem no_StreamHandler_stream (T : Txt w K mg) : NoAttr K (ga K "StreamHandler") "stream" := noat_ok (T.says.d.fact 37 (f := .noat "StreamHandler" "stream"))
theorem m_NullHandler (T : Txt w K mg) : mg "NullHandler" = some (.ref (ga K "NullHandler")) := T.glo (T.says.d.fact 38 (f := .glo "NullHandler"))
theorem gv_NullHandler (T : Txt w K mg) : ∃ u, mg "NullHandler" = some u ∧ RelV (.ref (ga K "NullHandler")) u := ⟨_, T.m_NullHandler, rfl⟩
theorem cl_NullHandler (T : Txt w K mg) : Cls K (ga K "NullHandler") := cls_ok (T.says.d.fact 39 (f := .cls "NullHandler"))
theorem mk_NullHandler (T : Txt w K mg) : Mk K (ga K "NullHandler") (ma K (ga K "NullHandler") "__init__") := mkr_ok (T.says.d.fact 40 (f := .mkr "NullHandler"))
theorem me_NullHandler_setLevel (T : Txt w K mg) : Meth K (ga K "NullHandler") "setLevel" (ma K (ga K "NullHandler") "setLevel") := meth_ok (T.says.d.fact 41 (f := .meth "NullHandler" "setLevel"))
theorem me_NullHandler_setFormatter (T : Txt w K mg) : Meth K (ga K "NullHandler") "setFormatter" (ma K (ga K "NullHandler") "setFormatter") := meth_ok (T.says.d.fact 42 (f := .meth "NullHandler" "setFormatter"))
theorem me_NullHandler_setTerminator (T : Txt w K mg) : Meth K (ga K "NullHandler") "setTerminator" (ma K (ga K "NullHandler") "setTerminator") := meth_ok (T.says.d.fact 43 (f := .meth "NullHandler" "setTerminator"))
theorem me_NullHandler_addFilter (T : Txt w K mg) : Meth K (ga K "NullHandler") "addFilter" (ma K (ga K "NullHandler") "addFilter") := meth_ok (T.says.d.fact 44 (f := .meth "NullHandler" "addFilter"))
theorem no_NullHandler_filters (T : Txt w K mg) : NoAttr K (ga K "NullHandler") "filters" := noat_ok (T.says.d.fact 45 (f := .noat "NullHandler" "filters"))
theorem no_NullHandler_yard (T : Txt w K mg) : NoAttr K (ga K "NullHandler") "yard" := noat_ok (T.says.d.fact 46 (f := .noat "NullHandler" "yard"))
theorem no_NullHandler_level (T : Txt w K mg) : NoAttr K (ga K "NullHandler") "level" := noat_ok (T.says.d.fact 47 (f := .noat "NullHandler" "level"))
theorem no_NullHandler_formatter (T : Txt w K mg) : NoAttr K (ga K "NullHandler") "formatter" := noat_ok (T.says.d.fact 48 (f := .noat "NullHandler" "formatter"))
theorem no_NullHandler_name (T : Txt w K mg) : NoAttr K (ga K "NullHandler") "name" := noat_ok (T.says.d.fact 49 (f := .noat "NullHandler" "name"))
theorem no_NullHandler_terminator (T : Txt w K mg) : NoAttr K (ga K "NullHandler") "terminator" := noat_ok (T.says.d.fact 50 (f := .noat "NullHandler" "terminator"))
theorem no_NullHandler_closed (T : Txt w K mg) : NoAttr K (ga K "NullHandler") "closed" := noat_ok (T.says.d.fact 51 (f := .noat "NullHandler" "closed"))
theorem m_Field (T : Txt w K mg) : mg "Field" = some (.ref (ga K "Field")) := T.glo (T.says.d.fact 52 (f := .glo "Field"))
theorem gv_Field (T : Txt w K mg) : ∃ u, mg "Field" = some u ∧ RelV (.ref (ga K "Field")) u := ⟨_, T.m_Field, rfl⟩
theorem cl_Field (T : Txt w K mg) : Cls K (ga K "Field") := cls_ok (T.says.d.fact 53 (f := .cls "Field"))
theorem mk_Field (T : Txt w K mg) : Mk K (ga K "Field") (ma K (ga K "Field") "__init__") := mkr_ok (T.says.d.fact 54 (f := .mkr "Field"))
theorem no_Field_name (T : Txt w K mg) : NoAttr K (ga K "Field") "name" := noat_ok (T.says.d.fact 55 (f := .noat "Field" "name"))
theorem no_Field_conversion (T : Txt w K mg) : NoAttr K (ga K "Field") "conversion" := noat_ok (T.says.d.fact 56 (f := .noat "Field" "conversion"))
theorem no_Field_fill (T : Txt w K mg) : NoAttr K (ga K "Field") "fill" := noat_ok (T.says.d.fact 57 (f := .noat "Field" "fill"))
theorem no_Field_align (T : Txt w K mg) : NoAttr K (ga K "Field") "align" := noat_ok (T.says.d.fact 58 (f := .noat "Field" "align"))
theorem no_Field_width (T : Txt w K mg) : NoAttr K (ga K "Field") "width" := noat_ok (T.says.d.fact 59 (f := .noat "Field" "width"))
theorem m_Formatter (T : Txt w K mg) : mg "Formatter" = some (.ref (ga K "Formatter")) := T.glo (T.says.d.fact 60 (f := .glo "Formatter"))
theorem gv_Formatter (T : Txt w K mg) : ∃ u, mg "Formatter" = some u ∧ RelV (.ref (ga K "Formatter")) u := ⟨_, T.m_Formatter, rfl⟩
theorem cl_Formatter (T : Txt w K mg) : Cls K (ga K "Formatter") := cls_ok (T.says.d.fact 61 (f := .cls "Formatter"))
theorem mk_Formatter (T : Txt w K mg) : Mk K (ga K "Formatter") (ma K (ga K "Formatter") "__init__") := mkr_ok (T.says.d.fact 62 (f := .mkr "Formatter"))
theorem no_Formatter_fmt (T : Txt w K mg) : NoAttr K (ga K "Formatter") "fmt" := noat_ok (T.says.d.fact 63 (f := .noat "Formatter" "fmt"))
theorem no_Formatter_style (T : Txt w K mg) : NoAttr K (ga K "Formatter") "style" := noat_ok (T.says.d.fact 64 (f := .noat "Formatter" "style"))
theorem no_Formatter_parts (T : Txt w K mg) : NoAttr K (ga K "Formatter") "parts" := noat_ok (T.says.d.fact 65 (f := .noat "Formatter" "parts"))
theorem no_Formatter_defaults (T : Txt w K mg) : NoAttr K (ga K "Formatter") "defaults" := noat_ok (T.says.d.fact 66 (f := .noat "Formatter" "defaults"))
theorem m_MemoryHandler (T : Txt w K mg) : mg "MemoryHandler" = some (.ref (ga K "MemoryHandler")) := T.glo (T.says.d.fact 67 (f := .glo "MemoryHandler"))
theorem gv_MemoryHandler (T : Txt w K mg) : ∃ u, mg "MemoryHandler" = some u ∧ RelV (.ref (ga K "MemoryHandler")) u := ⟨_, T.m_MemoryHandler, rfl⟩
theorem cl_MemoryHandler (T : Txt w K mg) : Cls K (ga K "MemoryHandler") := cls_ok (T.says.d.fact 68 (f := .cls "MemoryHandler"))
theorem mk_MemoryHandler (T : Txt w K mg) : Mk K (ga K "MemoryHandler") (ma K (ga K "MemoryHandler") "__init__") := mkr_ok (T.says.d.fact 69 (f := .mkr "MemoryHandler"))
theorem me_MemoryHandler_setLevel (T : Txt w K mg) : Meth K (ga K "MemoryHandler") "setLevel" (ma K (ga K "MemoryHandler") "setLevel") := meth_ok (T.says.d.fact 70 (f := .meth "MemoryHandler" "setLevel"))
theorem me_MemoryHandler_setFormatter (T : Txt w K mg) : Meth K (ga K "MemoryHandler") "setFormatter" (ma K (ga K "MemoryHandler") "setFormatter") := meth_ok (T.says.d.fact 71 (f := .meth "MemoryHandler" "setFormatter"))
theorem me_MemoryHandler_setTerminator (T : Txt w K mg) : Meth K (ga K "MemoryHandler") "setTerminator" (ma K (ga K "MemoryHandler") "setTerminator") := meth_ok (T.says.d.fact 72 (f := .meth "MemoryHandler" "setTerminator"))
theorem me_MemoryHandler_addFilter (T : Txt w K mg) : Meth K (ga K "MemoryHandler") "addFilter" (ma K (ga K "MemoryHandler") "addFilter") := meth_ok (T.says.d.fact 73 (f := .meth "MemoryHandler" "addFilter"))
theorem no_MemoryHandler_filters (T : Txt w K mg) : NoAttr K (ga K "MemoryHandler") "filters" := noat_ok (T.says.d.fact 74 (f := .noat "MemoryHandler" "filters"))
theorem no_MemoryHandler_yard (T : Txt w K mg) : NoAttr K (ga K "MemoryHandler") "yard" := noat_ok (T.says.d.fact 75 (f := .noat "MemoryHandler" "yard"))
theorem no_MemoryHandler_level (T : Txt w K mg) : NoAttr K (ga K "MemoryHandler") "level" := noat_ok (T.says.d.fact 76 (f := .noat "MemoryHandler" "level"))
theorem no_MemoryHandler_formatter (T : Txt w K mg) : NoAttr K (ga K "MemoryHandler") "formatter" := noat_ok (T.says.d.fact 77 (f := .noat "MemoryHandler" "formatter"))
theorem no_MemoryHandler_name (T : Txt w K mg) : NoAttr K (ga K "MemoryHandler") "name" := noat_ok (T.says.d.fact 78 (f := .noat "MemoryHandler" "name"))
theorem no_MemoryHandler_terminator (T : Txt w K mg) : NoAttr K (ga K "MemoryHandler") "terminator" := noat_ok (T.says.d.fact 79 (f := .noat "MemoryHandler" "terminator"))
theorem no_MemoryHandler_closed (T : Txt w K mg) : NoAttr K (ga K "MemoryHandler") "closed" := noat_ok (T.says.d.fact 80 (f := .noat "MemoryHandler" "closed"))
theorem no_MemoryHandler_capacity (T : Txt w K mg) : NoAttr K (ga K "MemoryHandler") "capacity" := noat_ok (T.says.d.fact 81 (f := .noat "MemoryHandler" "capacity"))
theorem no_MemoryHandler_flush_level (T : Txt w K mg) : NoAttr K (ga K "MemoryHandler") "flush_level" := noat_ok (T.says.d.fact 82 (f := .noat "MemoryHandler" "flush_level"))
theorem no_MemoryHandler_target (T : Txt w K mg) : NoAttr K (ga K "MemoryHandler") "target" := noat_ok (T.says.d.fact 83 (f := .noat "MemoryHandler" "target"))
theorem no_MemoryHandler_flush_on_close (T : Txt w K mg) : NoAttr K (ga K "MemoryHandler") "flush_on_close" := noat_ok (T.says.d.fact 84 (f := .noat "MemoryHandler" "flush_on_close"))
theorem no_MemoryHandler_kept (T : Txt w K mg) : NoAttr K (ga K "MemoryHandler") "kept" := noat_ok (T.says.d.fact 85 (f := .noat "MemoryHandler" "kept"))
theorem m_Queue (T : Txt w K mg) : mg "Queue" = some (.ref (ga K "Queue")) := T.glo (T.says.d.fact 86 (f := .glo "Queue"))
theorem gv_Queue (T : Txt w K mg) : ∃ u, mg "Queue" = some u ∧ RelV (.ref (ga K "Queue")) u := ⟨_, T.m_Queue, rfl⟩
theorem cl_Queue (T : Txt w K mg) : Cls K (ga K "Queue") := cls_ok (T.says.d.fact 87 (f := .cls "Queue"))
theorem mk_Queue (T : Txt w K mg) : Mk K (ga K "Queue") (ma K (ga K "Queue") "__init__") := mkr_ok (T.says.d.fact 88 (f := .mkr "Queue"))
theorem no_Queue_waiting (T : Txt w K mg) : NoAttr K (ga K "Queue") "waiting" := noat_ok (T.says.d.fact 89 (f := .noat "Queue" "waiting"))
theorem m_QueueHandler (T : Txt w K mg) : mg "QueueHandler" = some (.ref (ga K "QueueHandler")) := T.glo (T.says.d.fact 90 (f := .glo "QueueHandler"))
theorem gv_QueueHandler (T : Txt w K mg) : ∃ u, mg "QueueHandler" = some u ∧ RelV (.ref (ga K "QueueHandler")) u := ⟨_, T.m_QueueHandler, rfl⟩
theorem cl_QueueHandler (T : Txt w K mg) : Cls K (ga K "QueueHandler") := cls_ok (T.says.d.fact 91 (f := .cls "QueueHandler"))
theorem mk_QueueHandler (T : Txt w K mg) : Mk K (ga K "QueueHandler") (ma K (ga K "QueueHandler") "__init__") := mkr_ok (T.says.d.fact 92 (f := .mkr "QueueHandler"))
theorem me_QueueHandler_setLevel (T : Txt w K mg) : Meth K (ga K "QueueHandler") "setLevel" (ma K (ga K "QueueHandler") "setLevel") := meth_ok (T.says.d.fact 93 (f := .meth "QueueHandler" "setLevel"))
theorem me_QueueHandler_setFormatter (T : Txt w K mg) : Meth K (ga K "QueueHandler") "setFormatter" (ma K (ga K "QueueHandler") "setFormatter") := meth_ok (T.says.d.fact 94 (f := .meth "QueueHandler" "setFormatter"))
theorem me_QueueHandler_setTerminator (T : Txt w K mg) : Meth K (ga K "QueueHandler") "setTerminator" (ma K (ga K "QueueHandler") "setTerminator") := meth_ok (T.says.d.fact 95 (f := .meth "QueueHandler" "setTerminator"))
theorem me_QueueHandler_addFilter (T : Txt w K mg) : Meth K (ga K "QueueHandler") "addFilter" (ma K (ga K "QueueHandler") "addFilter") := meth_ok (T.says.d.fact 96 (f := .meth "QueueHandler" "addFilter"))
theorem no_QueueHandler_filters (T : Txt w K mg) : NoAttr K (ga K "QueueHandler") "filters" := noat_ok (T.says.d.fact 97 (f := .noat "QueueHandler" "filters"))
theorem no_QueueHandler_yard (T : Txt w K mg) : NoAttr K (ga K "QueueHandler") "yard" := noat_ok (T.says.d.fact 98 (f := .noat "QueueHandler" "yard"))
theorem no_QueueHandler_level (T : Txt w K mg) : NoAttr K (ga K "QueueHandler") "level" := noat_ok (T.says.d.fact 99 (f := .noat "QueueHandler" "level"))
theorem no_QueueHandler_formatter (T : Txt w K mg) : NoAttr K (ga K "QueueHandler") "formatter" := noat_ok (T.says.d.fact 100 (f := .noat "QueueHandler" "formatter"))
theorem no_QueueHandler_name (T : Txt w K mg) : NoAttr K (ga K "QueueHandler") "name" := noat_ok (T.says.d.fact 101 (f := .noat "QueueHandler" "name"))
theorem no_QueueHandler_terminator (T : Txt w K mg) : NoAttr K (ga K "QueueHandler") "terminator" := noat_ok (T.says.d.fact 102 (f := .noat "QueueHandler" "terminator"))
theorem no_QueueHandler_closed (T : Txt w K mg) : NoAttr K (ga K "QueueHandler") "closed" := noat_ok (T.says.d.fact 103 (f := .noat "QueueHandler" "closed"))
theorem no_QueueHandler_queue (T : Txt w K mg) : NoAttr K (ga K "QueueHandler") "queue" := noat_ok (T.says.d.fact 104 (f := .noat "QueueHandler" "queue"))
theorem no_QueueHandler_listener (T : Txt w K mg) : NoAttr K (ga K "QueueHandler") "listener" := noat_ok (T.says.d.fact 105 (f := .noat "QueueHandler" "listener"))
theorem m_Logger (T : Txt w K mg) : mg "Logger" = some (.ref (ga K "Logger")) := T.glo (T.says.d.fact 106 (f := .glo "Logger"))
theorem gv_Logger (T : Txt w K mg) : ∃ u, mg "Logger" = some u ∧ RelV (.ref (ga K "Logger")) u := ⟨_, T.m_Logger, rfl⟩
theorem cl_Logger (T : Txt w K mg) : Cls K (ga K "Logger") := cls_ok (T.says.d.fact 107 (f := .cls "Logger"))
theorem mk_Logger (T : Txt w K mg) : Mk K (ga K "Logger") (ma K (ga K "Logger") "__init__") := mkr_ok (T.says.d.fact 108 (f := .mkr "Logger"))
theorem me_Logger_setLevel (T : Txt w K mg) : Meth K (ga K "Logger") "setLevel" (ma K (ga K "Logger") "setLevel") := meth_ok (T.says.d.fact 109 (f := .meth "Logger" "setLevel"))
theorem me_Logger_setPropagate (T : Txt w K mg) : Meth K (ga K "Logger") "setPropagate" (ma K (ga K "Logger") "setPropagate") := meth_ok (T.says.d.fact 110 (f := .meth "Logger" "setPropagate"))
theorem me_Logger_setDisabled (T : Txt w K mg) : Meth K (ga K "Logger") "setDisabled" (ma K (ga K "Logger") "setDisabled") := meth_ok (T.says.d.fact 111 (f := .meth "Logger" "setDisabled"))
theorem me_Logger_addHandler (T : Txt w K mg) : Meth K (ga K "Logger") "addHandler" (ma K (ga K "Logger") "addHandler") := meth_ok (T.says.d.fact 112 (f := .meth "Logger" "addHandler"))
theorem me_Logger_addFilter (T : Txt w K mg) : Meth K (ga K "Logger") "addFilter" (ma K (ga K "Logger") "addFilter") := meth_ok (T.says.d.fact 113 (f := .meth "Logger" "addFilter"))
theorem no_Logger_filters (T : Txt w K mg) : NoAttr K (ga K "Logger") "filters" := noat_ok (T.says.d.fact 114 (f := .noat "Logger" "filters"))
theorem no_Logger_yard (T : Txt w K mg) : NoAttr K (ga K "Logger") "yard" := noat_ok (T.says.d.fact 115 (f := .noat "Logger" "yard"))
theorem no_Logger_name (T : Txt w K mg) : NoAttr K (ga K "Logger") "name" := noat_ok (T.says.d.fact 116 (f := .noat "Logger" "name"))
theorem no_Logger_level (T : Txt w K mg) : NoAttr K (ga K "Logger") "level" := noat_ok (T.says.d.fact 117 (f := .noat "Logger" "level"))
theorem no_Logger_propagate (T : Txt w K mg) : NoAttr K (ga K "Logger") "propagate" := noat_ok (T.says.d.fact 118 (f := .noat "Logger" "propagate"))
theorem no_Logger_disabled (T : Txt w K mg) : NoAttr K (ga K "Logger") "disabled" := noat_ok (T.says.d.fact 119 (f := .noat "Logger" "disabled"))
theorem no_Logger_handlers (T : Txt w K mg) : NoAttr K (ga K "Logger") "handlers" := noat_ok (T.says.d.fact 120 (f := .noat "Logger" "handlers"))
theorem no_Logger_parent (T : Txt w K mg) : NoAttr K (ga K "Logger") "parent" := noat_ok (T.says.d.fact 121 (f := .noat "Logger" "parent"))
theorem m_Yard (T : Txt w K mg) : mg "Yard" = some (.ref (ga K "Yard")) := T.glo (T.says.d.fact 122 (f := .glo "Yard"))
theorem gv_Yard (T : Txt w K mg) : ∃ u, mg "Yard" = some u ∧ RelV (.ref (ga K "Yard")) u := ⟨_, T.m_Yard, rfl⟩
theorem cl_Yard (T : Txt w K mg) : Cls K (ga K "Yard") := cls_ok (T.says.d.fact 123 (f := .cls "Yard"))
theorem mk_Yard (T : Txt w K mg) : Mk K (ga K "Yard") (ma K (ga K "Yard") "__init__") := mkr_ok (T.says.d.fact 124 (f := .mkr "Yard"))
theorem me_Yard_add_level_name (T : Txt w K mg) : Meth K (ga K "Yard") "add_level_name" (ma K (ga K "Yard") "add_level_name") := meth_ok (T.says.d.fact 125 (f := .meth "Yard" "add_level_name"))
theorem me_Yard_level_of (T : Txt w K mg) : Meth K (ga K "Yard") "level_of" (ma K (ga K "Yard") "level_of") := meth_ok (T.says.d.fact 126 (f := .meth "Yard" "level_of"))
theorem me_Yard_getLogger (T : Txt w K mg) : Meth K (ga K "Yard") "getLogger" (ma K (ga K "Yard") "getLogger") := meth_ok (T.says.d.fact 127 (f := .meth "Yard" "getLogger"))
theorem me_Yard_loggers (T : Txt w K mg) : Meth K (ga K "Yard") "loggers" (ma K (ga K "Yard") "loggers") := meth_ok (T.says.d.fact 128 (f := .meth "Yard" "loggers"))
theorem me_Yard_disable (T : Txt w K mg) : Meth K (ga K "Yard") "disable" (ma K (ga K "Yard") "disable") := meth_ok (T.says.d.fact 129 (f := .meth "Yard" "disable"))
theorem me_Yard_enrol (T : Txt w K mg) : Meth K (ga K "Yard") "enrol" (ma K (ga K "Yard") "enrol") := meth_ok (T.says.d.fact 130 (f := .meth "Yard" "enrol"))
theorem no_Yard_clock (T : Txt w K mg) : NoAttr K (ga K "Yard") "clock" := noat_ok (T.says.d.fact 131 (f := .noat "Yard" "clock"))
theorem no_Yard_stream_texts (T : Txt w K mg) : NoAttr K (ga K "Yard") "stream_texts" := noat_ok (T.says.d.fact 132 (f := .noat "Yard" "stream_texts"))
theorem no_Yard_file_rows (T : Txt w K mg) : NoAttr K (ga K "Yard") "file_rows" := noat_ok (T.says.d.fact 133 (f := .noat "Yard" "file_rows"))
theorem no_Yard_names_of (T : Txt w K mg) : NoAttr K (ga K "Yard") "names_of" := noat_ok (T.says.d.fact 134 (f := .noat "Yard" "names_of"))
theorem no_Yard_numbers_of (T : Txt w K mg) : NoAttr K (ga K "Yard") "numbers_of" := noat_ok (T.says.d.fact 135 (f := .noat "Yard" "numbers_of"))
theorem no_Yard_bar_level (T : Txt w K mg) : NoAttr K (ga K "Yard") "bar_level" := noat_ok (T.says.d.fact 136 (f := .noat "Yard" "bar_level"))
theorem no_Yard_logger_map (T : Txt w K mg) : NoAttr K (ga K "Yard") "logger_map" := noat_ok (T.says.d.fact 137 (f := .noat "Yard" "logger_map"))
theorem no_Yard_made (T : Txt w K mg) : NoAttr K (ga K "Yard") "made" := noat_ok (T.says.d.fact 138 (f := .noat "Yard" "made"))
theorem no_Yard_handler_names (T : Txt w K mg) : NoAttr K (ga K "Yard") "handler_names" := noat_ok (T.says.d.fact 139 (f := .noat "Yard" "handler_names"))
theorem no_Yard_failure_rows (T : Txt w K mg) : NoAttr K (ga K "Yard") "failure_rows" := noat_ok (T.says.d.fact 140 (f := .noat "Yard" "failure_rows"))
theorem no_Yard_root (T : Txt w K mg) : NoAttr K (ga K "Yard") "root" := noat_ok (T.says.d.fact 141 (f := .noat "Yard" "root"))
theorem no_Yard_last_resort (T : Txt w K mg) : NoAttr K (ga K "Yard") "last_resort" := noat_ok (T.says.d.fact 142 (f := .noat "Yard" "last_resort"))
theorem m_is_integer (T : Txt w K mg) : mg "is_integer" = some (.ref (ga K "is_integer")) := T.glo (T.says.d.fact 143 (f := .glo "is_integer"))
theorem gv_is_integer (T : Txt w K mg) : ∃ u, mg "is_integer" = some u ∧ RelV (.ref (ga K "is_integer")) u := ⟨_, T.m_is_integer, rfl⟩
theorem m_name_end (T : Txt w K mg) : mg "name_end" = some (.ref (ga K "name_end")) := T.glo (T.says.d.fact 144 (f := .glo "name_end"))
theorem gv_name_end (T : Txt w K mg) : ∃ u, mg "name_end" = some u ∧ RelV (.ref (ga K "name_end")) u := ⟨_, T.m_name_end, rfl⟩
theorem m_field_of (T : Txt w K mg) : mg "field_of" = some (.ref (ga K "field_of")) := T.glo (T.says.d.fact 145 (f := .glo "field_of"))
theorem gv_field_of (T : Txt w K mg) : ∃ u, mg "field_of" = some u ∧ RelV (.ref (ga K "field_of")) u := ⟨_, T.m_field_of, rfl⟩
theorem m_parts_of_braces (T : Txt w K mg) : mg "parts_of_braces" = some (.ref (ga K "parts_of_braces")) := T.glo (T.says.d.fact 146 (f := .glo "parts_of_braces"))
theorem gv_parts_of_braces (T : Txt w K mg) : ∃ u, mg "parts_of_braces" = some u ∧ RelV (.ref (ga K "parts_of_braces")) u := ⟨_, T.m_parts_of_braces, rfl⟩
theorem m_field_behind (T : Txt w K mg) : mg "field_behind" = some (.ref (ga K "field_behind")) := T.glo (T.says.d.fact 147 (f := .glo "field_behind"))
theorem gv_field_behind (T : Txt w K mg) : ∃ u, mg "field_behind" = some u ∧ RelV (.ref (ga K "field_behind")) u := ⟨_, T.m_field_behind, rfl⟩
theorem m_parts_of_dollars (T : Txt w K mg) : mg "parts_of_dollars" = some (.ref (ga K "parts_of_dollars")) := T.glo (T.says.d.fact 148 (f := .glo "parts_of_dollars"))
theorem gv_parts_of_dollars (T : Txt w K mg) : ∃ u, mg "parts_of_dollars" = some u ∧ RelV (.ref (ga K "parts_of_dollars")) u := ⟨_, T.m_parts_of_dollars, rfl⟩
theorem m_joined_texts (T : Txt w K mg) : mg "joined_texts" = some (.ref (ga K "joined_texts")) := T.glo (T.says.d.fact 149 (f := .glo "joined_texts"))
theorem gv_joined_texts (T : Txt w K mg) : ∃ u, mg "joined_texts" = some u ∧ RelV (.ref (ga K "joined_texts")) u := ⟨_, T.m_joined_texts, rfl⟩
theorem m_is_part (T : Txt w K mg) : mg "is_part" = some (.ref (ga K "is_part")) := T.glo (T.says.d.fact 150 (f := .glo "is_part"))
theorem gv_is_part (T : Txt w K mg) : ∃ u, mg "is_part" = some u ∧ RelV (.ref (ga K "is_part")) u := ⟨_, T.m_is_part, rfl⟩
theorem m_are_parts (T : Txt w K mg) : mg "are_parts" = some (.ref (ga K "are_parts")) := T.glo (T.says.d.fact 151 (f := .glo "are_parts"))
theorem gv_are_parts (T : Txt w K mg) : ∃ u, mg "are_parts" = some u ∧ RelV (.ref (ga K "are_parts")) u := ⟨_, T.m_are_parts, rfl⟩
theorem m_parent_of (T : Txt w K mg) : mg "parent_of" = some (.ref (ga K "parent_of")) := T.glo (T.says.d.fact 152 (f := .glo "parent_of"))
theorem gv_parent_of (T : Txt w K mg) : ∃ u, mg "parent_of" = some u ∧ RelV (.ref (ga K "parent_of")) u := ⟨_, T.m_parent_of, rfl⟩
theorem m_place_loggers (T : Txt w K mg) : mg "place_loggers" = some (.ref (ga K "place_loggers")) := T.glo (T.says.d.fact 153 (f := .glo "place_loggers"))
theorem gv_place_loggers (T : Txt w K mg) : ∃ u, mg "place_loggers" = some u ∧ RelV (.ref (ga K "place_loggers")) u := ⟨_, T.m_place_loggers, rfl⟩
theorem m_deeds_of (T : Txt w K mg) : mg "deeds_of" = some (.ref (ga K "deeds_of")) := T.glo (T.says.d.fact 154 (f := .glo "deeds_of"))
theorem gv_deeds_of (T : Txt w K mg) : ∃ u, mg "deeds_of" = some u ∧ RelV (.ref (ga K "deeds_of")) u := ⟨_, T.m_deeds_of, rfl⟩
theorem m_deeds (T : Txt w K mg) : mg "deeds" = some (.ref (ga K "deeds")) := T.glo (T.says.d.fact 155 (f := .glo "deeds"))
theorem gv_deeds (T : Txt w K mg) : ∃ u, mg "deeds" = some u ∧ RelV (.ref (ga K "deeds")) u := ⟨_, T.m_deeds, rfl⟩
theorem m_law_draw (T : Txt w K mg) : mg "_law_draw" = some (.ref (ga K "_law_draw")) := T.glo (T.says.d.fact 156 (f := .glo "_law_draw"))
theorem gv_law_draw (T : Txt w K mg) : ∃ u, mg "_law_draw" = some u ∧ RelV (.ref (ga K "_law_draw")) u := ⟨_, T.m_law_draw, rfl⟩
theorem m_law_pick (T : Txt w K mg) : mg "_law_pick" = some (.ref (ga K "_law_pick")) := T.glo (T.says.d.fact 157 (f := .glo "_law_pick"))
theorem gv_law_pick (T : Txt w K mg) : ∃ u, mg "_law_pick" = some u ∧ RelV (.ref (ga K "_law_pick")) u := ⟨_, T.m_law_pick, rfl⟩
theorem m_law_format (T : Txt w K mg) : mg "_law_format" = some (.ref (ga K "_law_format")) := T.glo (T.says.d.fact 158 (f := .glo "_law_format"))
theorem gv_law_format (T : Txt w K mg) : ∃ u, mg "_law_format" = some u ∧ RelV (.ref (ga K "_law_format")) u := ⟨_, T.m_law_format, rfl⟩
theorem m_law_format_text (T : Txt w K mg) : mg "_law_format_text" = some (.ref (ga K "_law_format_text")) := T.glo (T.says.d.fact 159 (f := .glo "_law_format_text"))
theorem gv_law_format_text (T : Txt w K mg) : ∃ u, mg "_law_format_text" = some u ∧ RelV (.ref (ga K "_law_format_text")) u := ⟨_, T.m_law_format_text, rfl⟩
theorem m_law_has_field (T : Txt w K mg) : mg "_law_has_field" = some (.ref (ga K "_law_has_field")) := T.glo (T.says.d.fact 160 (f := .glo "_law_has_field"))
theorem gv_law_has_field (T : Txt w K mg) : ∃ u, mg "_law_has_field" = some u ∧ RelV (.ref (ga K "_law_has_field")) u := ⟨_, T.m_law_has_field, rfl⟩
theorem m_law_level (T : Txt w K mg) : mg "_law_level" = some (.ref (ga K "_law_level")) := T.glo (T.says.d.fact 161 (f := .glo "_law_level"))
theorem gv_law_level (T : Txt w K mg) : ∃ u, mg "_law_level" = some u ∧ RelV (.ref (ga K "_law_level")) u := ⟨_, T.m_law_level, rfl⟩
theorem m_law_names (T : Txt w K mg) : mg "_law_names" = some (.ref (ga K "_law_names")) := T.glo (T.says.d.fact 162 (f := .glo "_law_names"))
theorem gv_law_names (T : Txt w K mg) : ∃ u, mg "_law_names" = some u ∧ RelV (.ref (ga K "_law_names")) u := ⟨_, T.m_law_names, rfl⟩
theorem m_law_handler_plan (T : Txt w K mg) : mg "_law_handler_plan" = some (.ref (ga K "_law_handler_plan")) := T.glo (T.says.d.fact 163 (f := .glo "_law_handler_plan"))
theorem gv_law_handler_plan (T : Txt w K mg) : ∃ u, mg "_law_handler_plan" = some u ∧ RelV (.ref (ga K "_law_handler_plan")) u := ⟨_, T.m_law_handler_plan, rfl⟩
theorem m_law_logger_plan (T : Txt w K mg) : mg "_law_logger_plan" = some (.ref (ga K "_law_logger_plan")) := T.glo (T.says.d.fact 164 (f := .glo "_law_logger_plan"))
theorem gv_law_logger_plan (T : Txt w K mg) : ∃ u, mg "_law_logger_plan" = some u ∧ RelV (.ref (ga K "_law_logger_plan")) u := ⟨_, T.m_law_logger_plan, rfl⟩
theorem m_law_plan (T : Txt w K mg) : mg "_law_plan" = some (.ref (ga K "_law_plan")) := T.glo (T.says.d.fact 165 (f := .glo "_law_plan"))
theorem gv_law_plan (T : Txt w K mg) : ∃ u, mg "_law_plan" = some u ∧ RelV (.ref (ga K "_law_plan")) u := ⟨_, T.m_law_plan, rfl⟩
theorem m_law_handler (T : Txt w K mg) : mg "_law_handler" = some (.ref (ga K "_law_handler")) := T.glo (T.says.d.fact 166 (f := .glo "_law_handler"))
theorem gv_law_handler (T : Txt w K mg) : ∃ u, mg "_law_handler" = some u ∧ RelV (.ref (ga K "_law_handler")) u := ⟨_, T.m_law_handler, rfl⟩
theorem m_law_yard (T : Txt w K mg) : mg "_law_yard" = some (.ref (ga K "_law_yard")) := T.glo (T.says.d.fact 167 (f := .glo "_law_yard"))
theorem gv_law_yard (T : Txt w K mg) : ∃ u, mg "_law_yard" = some u ∧ RelV (.ref (ga K "_law_yard")) u := ⟨_, T.m_law_yard, rfl⟩
theorem m_law_copied (T : Txt w K mg) : mg "_law_copied" = some (.ref (ga K "_law_copied")) := T.glo (T.says.d.fact 168 (f := .glo "_law_copied"))
theorem gv_law_copied (T : Txt w K mg) : ∃ u, mg "_law_copied" = some u ∧ RelV (.ref (ga K "_law_copied")) u := ⟨_, T.m_law_copied, rfl⟩
theorem m_law_row_deeds (T : Txt w K mg) : mg "_law_row_deeds" = some (.ref (ga K "_law_row_deeds")) := T.glo (T.says.d.fact 169 (f := .glo "_law_row_deeds"))
theorem gv_law_row_deeds (T : Txt w K mg) : ∃ u, mg "_law_row_deeds" = some u ∧ RelV (.ref (ga K "_law_row_deeds")) u := ⟨_, T.m_law_row_deeds, rfl⟩
theorem m_law_deeds (T : Txt w K mg) : mg "_law_deeds" = some (.ref (ga K "_law_deeds")) := T.glo (T.says.d.fact 170 (f := .glo "_law_deeds"))
theorem gv_law_deeds (T : Txt w K mg) : ∃ u, mg "_law_deeds" = some u ∧ RelV (.ref (ga K "_law_deeds")) u := ⟨_, T.m_law_deeds, rfl⟩
theorem m_law_odd (T : Txt w K mg) : mg "_law_odd" = some (.ref (ga K "_law_odd")) := T.glo (T.says.d.fact 171 (f := .glo "_law_odd"))
theorem gv_law_odd (T : Txt w K mg) : ∃ u, mg "_law_odd" = some u ∧ RelV (.ref (ga K "_law_odd")) u := ⟨_, T.m_law_odd, rfl⟩
theorem m_law (T : Txt w K mg) : mg "law" = some (.ref (ga K "law")) := T.glo (T.says.d.fact 172 (f := .glo "law"))
theorem gv_law (T : Txt w K mg) : ∃ u, mg "law" = some u ∧ RelV (.ref (ga K "law")) u := ⟨_, T.m_law, rfl⟩
theorem c_CRITICAL (T : Txt w K mg) : ∃ u, mg "CRITICAL" = some u ∧ RelV (.int (50)) u := T.intc (T.says.d.fact 173 (f := .int "CRITICAL" (50)))
theorem c_WARNING (T : Txt w K mg) : ∃ u, mg "WARNING" = some u ∧ RelV (.int (30)) u := T.intc (T.says.d.fact 174 (f := .int "WARNING" (30)))
theorem c_NOTSET (T : Txt w K mg) : ∃ u, mg "NOTSET" = some u ∧ RelV (.int (0)) u := T.intc (T.says.d.fact 175 (f := .int "NOTSET" (0)))
theorem m_FIRST_NAMES (T : Txt w K mg) : mg "FIRST_NAMES" = some (.ref (ga K "FIRST_NAMES")) := T.glo (T.says.d.fact 176 (f := .glo "FIRST_NAMES"))
theorem gv_FIRST_NAMES (T : Txt w K mg) : ∃ u, mg "FIRST_NAMES" = some u ∧ RelV (.ref (ga K "FIRST_NAMES")) u := ⟨_, T.m_FIRST_NAMES, rfl⟩
theorem m_FIRST_NUMBERS (T : Txt w K mg) : mg "FIRST_NUMBERS" = some (.ref (ga K "FIRST_NUMBERS")) := T.glo (T.says.d.fact 177 (f := .glo "FIRST_NUMBERS"))
theorem gv_FIRST_NUMBERS (T : Txt w K mg) : ∃ u, mg "FIRST_NUMBERS" = some u ∧ RelV (.ref (ga K "FIRST_NUMBERS")) u := ⟨_, T.m_FIRST_NUMBERS, rfl⟩
theorem c_LETTERS (T : Txt w K mg) : ∃ u, mg "LETTERS" = some u ∧ RelV (.str "abcdefghijklmnopqrstuvwxyzABCDEFGHIJKLMNOPQRSTUVWXYZ_") u := T.strc (T.says.d.fact 178 (f := .str "LETTERS" "abcdefghijklmnopqrstuvwxyzABCDEFGHIJKLMNOPQRSTUVWXYZ_"))
theorem c_DIGITS (T : Txt w K mg) : ∃ u, mg "DIGITS" = some u ∧ RelV (.str "0123456789") u := T.strc (T.says.d.fact 179 (f := .str "DIGITS" "0123456789"))
theorem m_MESSAGE_ALONE (T : Txt w K mg) : mg "MESSAGE_ALONE" = some (.ref (ga K "MESSAGE_ALONE")) := T.glo (T.says.d.fact 180 (f := .glo "MESSAGE_ALONE"))
theorem gv_MESSAGE_ALONE (T : Txt w K mg) : ∃ u, mg "MESSAGE_ALONE" = some u ∧ RelV (.ref (ga K "MESSAGE_ALONE")) u := ⟨_, T.m_MESSAGE_ALONE, rfl⟩
theorem c_SIGNS (T : Txt w K mg) : ∃ u, mg "SIGNS" = some u ∧ RelV (.str "abcdefghijklmnopqrstuvwxyzABCDEFGHIJKLMNOPQRSTUVWXYZ0123456789_") u := T.strc (T.says.d.fact 181 (f := .str "SIGNS" "abcdefghijklmnopqrstuvwxyzABCDEFGHIJKLMNOPQRSTUVWXYZ0123456789_"))
theorem f_len (T : Txt w K mg) : mg "len" = none := T.free (T.says.d.fact 182 (f := .free "len"))
theorem f_isinstance (T : Txt w K mg) : mg "isinstance" = none := T.free (T.says.d.fact 183 (f := .free "isinstance"))
theorem f_int (T : Txt w K mg) : mg "int" = none := T.free (T.says.d.fact 184 (f := .free "int"))
theorem f_str (T : Txt w K mg) : mg "str" = none := T.free (T.says.d.fact 185 (f := .free "str"))
theorem f_bool (T : Txt w K mg) : mg "bool" = none := T.free (T.says.d.fact 186 (f := .free "bool"))
theorem f_sorted (T : Txt w K mg) : mg "sorted" = none := T.free (T.says.d.fact 187 (f := .free "sorted"))
theorem f_list (T : Txt w K mg) : mg "list" = none := T.free (T.says.d.fact 188 (f := .free "list"))
theorem f_dict (T : Txt w K mg) : mg "dict" = none := T.free (T.says.d.fact 189 (f := .free "dict"))
theorem f_tuple (T : Txt w K mg) : mg "tuple" = none := T.free (T.says.d.fact 190 (f := .free "tuple"))
theorem f_range (T : Txt w K mg) : mg "range" = none := T.free (T.says.d.fact 191 (f := .free "range"))
theorem f_enumerate (T : Txt w K mg) : mg "enumerate" = none := T.free (T.says.d.fact 192 (f := .free "enumerate"))
theorem f_all (T : Txt w K mg) : mg "all" = none := T.free (T.says.d.fact 193 (f := .free "all"))
theorem f_any (T : Txt w K mg) : mg "any" = none := T.free (T.says.d.fact 194 (f := .free "any"))
theorem f_max (T : Txt w K mg) : mg "max" = none := T.free (T.says.d.fact 195 (f := .free "max"))
theorem f_repr (T : Txt w K mg) : mg "repr" = none := T.free (T.says.d.fact 196 (f := .free "repr"))
theorem df_is_integer (T : Txt w K mg) : ∃ fd, FunD K "is_integer" "is_integer" (defArgs s_is_integer) (defBody s_is_integer) (defScope s_is_integer) (He.DefD.dvs K d_is_integer) [] (fAd K ("is_integer", none)) fd := T.says.d.def_ 0 (d := d_is_integer) rfl
theorem df_name_end (T : Txt w K mg) : ∃ fd, FunD K "name_end" "name_end" (defArgs s_name_end) (defBody s_name_end) (defScope s_name_end) (He.DefD.dvs K d_name_end) [] (fAd K ("name_end", none)) fd := T.says.d.def_ 1 (d := d_name_end) rfl
theorem df_field_of (T : Txt w K mg) : ∃ fd, FunD K "field_of" "field_of" (defArgs s_field_of) (defBody s_field_of) (defScope s_field_of) (He.DefD.dvs K d_field_of) [] (fAd K ("field_of", none)) fd := T.says.d.def_ 2 (d := d_field_of) rfl
theorem df_parts_of_braces (T : Txt w K mg) : ∃ fd, FunD K "parts_of_braces" "parts_of_braces" (defArgs s_parts_of_braces) (defBody s_parts_of_braces) (defScope s_parts_of_braces) (He.DefD.dvs K d_parts_of_braces) [] (fAd K ("parts_of_braces", none)) fd := T.says.d.def_ 3 (d := d_parts_of_braces) rfl
theorem df_field_behind (T : Txt w K mg) : ∃ fd, FunD K "field_behind" "field_behind" (defArgs s_field_behind) (defBody s_field_behind) (defScope s_field_behind) (He.DefD.dvs K d_field_behind) [] (fAd K ("field_behind", none)) fd := T.says.d.def_ 4 (d := d_field_behind) rfl
theorem df_parts_of_dollars (T : Txt w K mg) : ∃ fd, FunD K "parts_of_dollars" "parts_of_dollars" (defArgs s_parts_of_dollars) (defBody s_parts_of_dollars) (defScope s_parts_of_dollars) (He.DefD.dvs K d_parts_of_dollars) [] (fAd K ("parts_of_dollars", none)) fd := T.says.d.def_ 5 (d := d_parts_of_dollars) rfl
theorem df_joined_texts (T : Txt w K mg) : ∃ fd, FunD K "joined_texts" "joined_texts" (defArgs s_joined_texts) (defBody s_joined_texts) (defScope s_joined_texts) (He.DefD.dvs K d_joined_texts) [] (fAd K ("joined_texts", none)) fd := T.says.d.def_ 6 (d := d_joined_texts) rfl
theorem df_is_part (T : Txt w K mg) : ∃ fd, FunD K "is_part" "is_part" (defArgs s_is_part) (defBody s_is_part) (defScope s_is_part) (He.DefD.dvs K d_is_part) [] (fAd K ("is_part", none)) fd := T.says.d.def_ 7 (d := d_is_part) rfl
theorem df_are_parts (T : Txt w K mg) : ∃ fd, FunD K "are_parts" "are_parts" (defArgs s_are_parts) (defBody s_are_parts) (defScope s_are_parts) (He.DefD.dvs K d_are_parts) [] (fAd K ("are_parts", none)) fd := T.says.d.def_ 8 (d := d_are_parts) rfl
theorem df_parent_of (T : Txt w K mg) : ∃ fd, FunD K "parent_of" "parent_of" (defArgs s_parent_of) (defBody s_parent_of) (defScope s_parent_of) (He.DefD.dvs K d_parent_of) [] (fAd K ("parent_of", none)) fd := T.says.d.def_ 9 (d := d_parent_of) rfl
theorem df_place_loggers (T : Txt w K mg) : ∃ fd, FunD K "place_loggers" "place_loggers" (defArgs s_place_loggers) (defBody s_place_loggers) (defScope s_place_loggers) (He.DefD.dvs K d_place_loggers) [] (fAd K ("place_loggers", none)) fd := T.says.d.def_ 10 (d := d_place_loggers) rfl
theorem df_deeds_of (T : Txt w K mg) : ∃ fd, FunD K "deeds_of" "deeds_of" (defArgs s_deeds_of) (defBody s_deeds_of) (defScope s_deeds_of) (He.DefD.dvs K d_deeds_of) [] (fAd K ("deeds_of", none)) fd := T.says.d.def_ 11 (d := d_deeds_of) rfl
theorem df_deeds (T : Txt w K mg) : ∃ fd, FunD K "deeds" "deeds" (defArgs s_deeds) (defBody s_deeds) (defScope s_deeds) (He.DefD.dvs K d_deeds) [] (fAd K ("deeds", none)) fd := T.says.d.def_ 12 (d := d_deeds) rfl
theorem df_law_draw (T : Txt w K mg) : ∃ fd, FunD K "_law_draw" "_law_draw" (defArgs s_law_draw) (defBody s_law_draw) (defScope s_law_draw) (He.DefD.dvs K d_law_draw) [] (fAd K ("_law_draw", none)) fd := T.says.d.def_ 13 (d := d_law_draw) rfl
theorem df_law_pick (T : Txt w K mg) : ∃ fd, FunD K "_law_pick" "_law_pick" (defArgs s_law_pick) (defBody s_law_pick) (defScope s_law_pick) (He.DefD.dvs K d_law_pick) [] (fAd K ("_law_pick", none)) fd := T.says.d.def_ 14 (d := d_law_pick) rfl
theorem df_law_format (T : Txt w K mg) : ∃ fd, FunD K "_law_format" "_law_format" (defArgs s_law_format) (defBody s_law_format) (defScope s_law_format) (He.DefD.dvs K d_law_format) [] (fAd K ("_law_format", none)) fd := T.says.d.def_ 15 (d := d_law_format) rfl
theorem df_law_format_text (T : Txt w K mg) : ∃ fd, FunD K "_law_format_text" "_law_format_text" (defArgs s_law_format_text) (defBody s_law_format_text) (defScope s_law_format_text) (He.DefD.dvs K d_law_format_text) [] (fAd K ("_law_format_text", none)) fd := T.says.d.def_ 16 (d := d_law_format_text) rfl
theorem df_law_has_field (T : Txt w K mg) : ∃ fd, FunD K "_law_has_field" "_law_has_field" (defArgs s_law_has_field) (defBody s_law_has_field) (defScope s_law_has_field) (He.DefD.dvs K d_law_has_field) [] (fAd K ("_law_has_field", none)) fd := T.says.d.def_ 17 (d := d_law_has_field) rfl
theorem df_law_level (T : Txt w K mg) : ∃ fd, FunD K "_law_level" "_law_level" (defArgs s_law_level) (defBody s_law_level) (defScope s_law_level) (He.DefD.dvs K d_law_level) [] (fAd K ("_law_level", none)) fd := T.says.d.def_ 18 (d := d_law_level) rfl
theorem df_law_names (T : Txt w K mg) : ∃ fd, FunD K "_law_names" "_law_names" (defArgs s_law_names) (defBody s_law_names) (defScope s_law_names) (He.DefD.dvs K d_law_names) [] (fAd K ("_law_names", none)) fd := T.says.d.def_ 19 (d := d_law_names) rfl
theorem df_law_handler_plan (T : Txt w K mg) : ∃ fd, FunD K "_law_handler_plan" "_law_handler_plan" (defArgs s_law_handler_plan) (defBody s_law_handler_plan) (defScope s_law_handler_plan) (He.DefD.dvs K d_law_handler_plan) [] (fAd K ("_law_handler_plan", none)) fd := T.says.d.def_ 20 (d := d_law_handler_plan) rfl
theorem df_law_logger_plan (T : Txt w K mg) : ∃ fd, FunD K "_law_logger_plan" "_law_logger_plan" (defArgs s_law_logger_plan) (defBody s_law_logger_plan) (defScope s_law_logger_plan) (He.DefD.dvs K d_law_logger_plan) [] (fAd K ("_law_logger_plan", none)) fd := T.says.d.def_ 21 (d := d_law_logger_plan) rfl
theorem df_law_plan (T : Txt w K mg) : ∃ fd, FunD K "_law_plan" "_law_plan" (defArgs s_law_plan) (defBody s_law_plan) (defScope s_law_plan) (He.DefD.dvs K d_law_plan) [] (fAd K ("_law_plan", none)) fd := T.says.d.def_ 22 (d := d_law_plan) rfl
theorem df_law_handler (T : Txt w K mg) : ∃ fd, FunD K "_law_handler" "_law_handler" (defArgs s_law_handler) (defBody s_law_handler) (defScope s_law_handler) (He.DefD.dvs K d_law_handler) [] (fAd K ("_law_handler", none)) fd := T.says.d.def_ 23 (d := d_law_handler) rfl
theorem df_law_yard (T : Txt w K mg) : ∃ fd, FunD K "_law_yard" "_law_yard" (defArgs s_law_yard) (defBody s_law_yard) (defScope s_law_yard) (He.DefD.dvs K d_law_yard) [] (fAd K ("_law_yard", none)) fd := T.says.d.def_ 24 (d := d_law_yard) rfl
theorem df_law_copied (T : Txt w K mg) : ∃ fd, FunD K "_law_copied" "_law_copied" (defArgs s_law_copied) (defBody s_law_copied) (defScope s_law_copied) (He.DefD.dvs K d_law_copied) [] (fAd K ("_law_copied", none)) fd := T.says.d.def_ 25 (d := d_law_copied) rfl
theorem df_law_row_deeds (T : Txt w K mg) : ∃ fd, FunD K "_law_row_deeds" "_law_row_deeds" (defArgs s_law_row_deeds) (defBody s_law_row_deeds) (defScope s_law_row_deeds) (He.DefD.dvs K d_law_row_deeds) [] (fAd K ("_law_row_deeds", none)) fd := T.says.d.def_ 26 (d := d_law_row_deeds) rfl
theorem df_law_deeds (T : Txt w K mg) : ∃ fd, FunD K "_law_deeds" "_law_deeds" (defArgs s_law_deeds) (defBody s_law_deeds) (defScope s_law_deeds) (He.DefD.dvs K d_law_deeds) [] (fAd K ("_law_deeds", none)) fd := T.says.d.def_ 27 (d := d_law_deeds) rfl
theorem df_law_odd (T : Txt w K mg) : ∃ fd, FunD K "_law_odd" "_law_odd" (defArgs s_law_odd) (defBody s_law_odd) (defScope s_law_odd) (He.DefD.dvs K d_law_odd) [] (fAd K ("_law_odd", none)) fd := T.says.d.def_ 28 (d := d_law_odd) rfl
theorem df_law (T : Txt w K mg) : ∃ fd, FunD K "law" "law" (defArgs s_law) (defBody s_law) (defScope s_law) (He.DefD.dvs K d_law) [] (fAd K ("law", none)) fd := T.says.d.def_ 29 (d := d_law) rfl
theorem df_Filter_init (T : Txt w K mg) : ∃ fd, FunD K "__init__" "Filter.__init__" (defArgs s_Filter_init) (defBody s_Filter_init) (defScope s_Filter_init) (He.DefD.dvs K d_Filter_init) [] (fAd K ("Filter", some "__init__")) fd := T.says.d.def_ 30 (d := d_Filter_init) rfl
theorem df_Filterer_init (T : Txt w K mg) : ∃ fd, FunD K "__init__" "Filterer.__init__" (defArgs s_Filterer_init) (defBody s_Filterer_init) (defScope s_Filterer_init) (He.DefD.dvs K d_Filterer_init) [] (fAd K ("Filterer", some "__init__")) fd := T.says.d.def_ 31 (d := d_Filterer_init) rfl
theorem df_Filterer_addFilter (T : Txt w K mg) : ∃ fd, FunD K "addFilter" "Filterer.addFilter" (defArgs s_Filterer_addFilter) (defBody s_Filterer_addFilter) (defScope s_Filterer_addFilter) (He.DefD.dvs K d_Filterer_addFilter) [] (fAd K ("Filterer", some "addFilter")) fd := T.says.d.def_ 32 (d := d_Filterer_addFilter) rfl
theorem df_Handler_init (T : Txt w K mg) : ∃ fd, FunD K "__init__" "Handler.__init__" (defArgs s_Handler_init) (defBody s_Handler_init) (defScope s_Handler_init) (He.DefD.dvs K d_Handler_init) [] (fAd K ("Handler", some "__init__")) fd := T.says.d.def_ 33 (d := d_Handler_init) rfl
theorem df_Handler_setLevel (T : Txt w K mg) : ∃ fd, FunD K "setLevel" "Handler.setLevel" (defArgs s_Handler_setLevel) (defBody s_Handler_setLevel) (defScope s_Handler_setLevel) (He.DefD.dvs K d_Handler_setLevel) [] (fAd K ("Handler", some "setLevel")) fd := T.says.d.def_ 34 (d := d_Handler_setLevel) rfl
theorem df_Handler_setFormatter (T : Txt w K mg) : ∃ fd, FunD K "setFormatter" "Handler.setFormatter" (defArgs s_Handler_setFormatter) (defBody s_Handler_setFormatter) (defScope s_Handler_setFormatter) (He.DefD.dvs K d_Handler_setFormatter) [] (fAd K ("Handler", some "setFormatter")) fd := T.says.d.def_ 35 (d := d_Handler_setFormatter) rfl
theorem df_Handler_setTerminator (T : Txt w K mg) : ∃ fd, FunD K "setTerminator" "Handler.setTerminator" (defArgs s_Handler_setTerminator) (defBody s_Handler_setTerminator) (defScope s_Handler_setTerminator) (He.DefD.dvs K d_Handler_setTerminator) [] (fAd K ("Handler", some "setTerminator")) fd := T.says.d.def_ 36 (d := d_Handler_setTerminator) rfl
theorem df_StreamHandler_init (T : Txt w K mg) : ∃ fd, FunD K "__init__" "StreamHandler.__init__" (defArgs s_StreamHandler_init) (defBody s_StreamHandler_init) (defScope s_StreamHandler_init) (He.DefD.dvs K d_StreamHandler_init) [] (fAd K ("StreamHandler", some "__init__")) fd := T.says.d.def_ 37 (d := d_StreamHandler_init) rfl
theorem df_Field_init (T : Txt w K mg) : ∃ fd, FunD K "__init__" "Field.__init__" (defArgs s_Field_init) (defBody s_Field_init) (defScope s_Field_init) (He.DefD.dvs K d_Field_init) [] (fAd K ("Field", some "__init__")) fd := T.says.d.def_ 38 (d := d_Field_init) rfl
theorem df_Formatter_init (T : Txt w K mg) : ∃ fd, FunD K "__init__" "Formatter.__init__" (defArgs s_Formatter_init) (defBody s_Formatter_init) (defScope s_Formatter_init) (He.DefD.dvs K d_Formatter_init) [] (fAd K ("Formatter", some "__init__")) fd := T.says.d.def_ 39 (d := d_Formatter_init) rfl
theorem df_MemoryHandler_init (T : Txt w K mg) : ∃ fd, FunD K "__init__" "MemoryHandler.__init__" (defArgs s_MemoryHandler_init) (defBody s_MemoryHandler_init) (defScope s_MemoryHandler_init) (He.DefD.dvs K d_MemoryHandler_init) [] (fAd K ("MemoryHandler", some "__init__")) fd := T.says.d.def_ 40 (d := d_MemoryHandler_init) rfl
theorem df_Queue_init (T : Txt w K mg) : ∃ fd, FunD K "__init__" "Queue.__init__" (defArgs s_Queue_init) (defBody s_Queue_init) (defScope s_Queue_init) (He.DefD.dvs K d_Queue_init) [] (fAd K ("Queue", some "__init__")) fd := T.says.d.def_ 41 (d := d_Queue_init) rfl
theorem df_QueueHandler_init (T : Txt w K mg) : ∃ fd, FunD K "__init__" "QueueHandler.__init__" (defArgs s_QueueHandler_init) (defBody s_QueueHandler_init) (defScope s_QueueHandler_init) (He.DefD.dvs K d_QueueHandler_init) [] (fAd K ("QueueHandler", some "__init__")) fd := T.says.d.def_ 42 (d := d_QueueHandler_init) rfl
theorem df_Logger_init (T : Txt w K mg) : ∃ fd, FunD K "__init__" "Logger.__init__" (defArgs s_Logger_init) (defBody s_Logger_init) (defScope s_Logger_init) (He.DefD.dvs K d_Logger_init) [] (fAd K ("Logger", some "__init__")) fd := T.says.d.def_ 43 (d := d_Logger_init) rfl
theorem df_Logger_setLevel (T : Txt w K mg) : ∃ fd, FunD K "setLevel" "Logger.setLevel" (defArgs s_Logger_setLevel) (defBody s_Logger_setLevel) (defScope s_Logger_setLevel) (He.DefD.dvs K d_Logger_setLevel) [] (fAd K ("Logger", some "setLevel")) fd := T.says.d.def_ 44 (d := d_Logger_setLevel) rfl
theorem df_Logger_setPropagate (T : Txt w K mg) : ∃ fd, FunD K "setPropagate" "Logger.setPropagate" (defArgs s_Logger_setPropagate) (defBody s_Logger_setPropagate) (defScope s_Logger_setPropagate) (He.DefD.dvs K d_Logger_setPropagate) [] (fAd K ("Logger", some "setPropagate")) fd := T.says.d.def_ 45 (d := d_Logger_setPropagate) rfl
theorem df_Logger_setDisabled (T : Txt w K mg) : ∃ fd, FunD K "setDisabled" "Logger.setDisabled" (defArgs s_Logger_setDisabled) (defBody s_Logger_setDisabled) (defScope s_Logger_setDisabled) (He.DefD.dvs K d_Logger_setDisabled) [] (fAd K ("Logger", some "setDisabled")) fd := T.says.d.def_ 46 (d := d_Logger_setDisabled) rfl
theorem df_Logger_addHandler (T : Txt w K mg) : ∃ fd, FunD K "addHandler" "Logger.addHandler" (defArgs s_Logger_addHandler) (defBody s_Logger_addHandler) (defScope s_Logger_addHandler) (He.DefD.dvs K d_Logger_addHandler) [] (fAd K ("Logger", some "addHandler")) fd := T.says.d.def_ 47 (d := d_Logger_addHandler) rfl
theorem df_Yard_init (T : Txt w K mg) : ∃ fd, FunD K "__init__" "Yard.__init__" (defArgs s_Yard_init) (defBody s_Yard_init) (defScope s_Yard_init) (He.DefD.dvs K d_Yard_init) [] (fAd K ("Yard", some "__init__")) fd := T.says.d.def_ 48 (d := d_Yard_init) rfl
theorem df_Yard_add_level_name (T : Txt w K mg) : ∃ fd, FunD K "add_level_name" "Yard.add_level_name" (defArgs s_Yard_add_level_name) (defBody s_Yard_add_level_name) (defScope s_Yard_add_level_name) (He.DefD.dvs K d_Yard_add_level_name) [] (fAd K ("Yard", some "add_level_name")) fd := T.says.d.def_ 49 (d := d_Yard_add_level_name) rfl
theorem df_Yard_level_of (T : Txt w K mg) : ∃ fd, FunD K "level_of" "Yard.level_of" (defArgs s_Yard_level_of) (defBody s_Yard_level_of) (defScope s_Yard_level_of) (He.DefD.dvs K d_Yard_level_of) [] (fAd K ("Yard", some "level_of")) fd := T.says.d.def_ 50 (d := d_Yard_level_of) rfl
theorem df_Yard_getLogger (T : Txt w K mg) : ∃ fd, FunD K "getLogger" "Yard.getLogger" (defArgs s_Yard_getLogger) (defBody s_Yard_getLogger) (defScope s_Yard_getLogger) (He.DefD.dvs K d_Yard_getLogger) [] (fAd K ("Yard", some "getLogger")) fd := T.says.d.def_ 51 (d := d_Yard_getLogger) rfl
theorem df_Yard_loggers (T : Txt w K mg) : ∃ fd, FunD K "loggers" "Yard.loggers" (defArgs s_Yard_loggers) (defBody s_Yard_loggers) (defScope s_Yard_loggers) (He.DefD.dvs K d_Yard_loggers) [] (fAd K ("Yard", some "loggers")) fd := T.says.d.def_ 52 (d := d_Yard_loggers) rfl
theorem df_Yard_disable (T : Txt w K mg) : ∃ fd, FunD K "disable" "Yard.disable" (defArgs s_Yard_disable) (defBody s_Yard_disable) (defScope s_Yard_disable) (He.DefD.dvs K d_Yard_disable) [] (fAd K ("Yard", some "disable")) fd := T.says.d.def_ 53 (d := d_Yard_disable) rfl
theorem df_Yard_enrol (T : Txt w K mg) : ∃ fd, FunD K "enrol" "Yard.enrol" (defArgs s_Yard_enrol) (defBody s_Yard_enrol) (defScope s_Yard_enrol) (He.DefD.dvs K d_Yard_enrol) [] (fAd K ("Yard", some "enrol")) fd := T.says.d.def_ 54 (d := d_Yard_enrol) rfl
theorem exs (T : Txt w K mg) : cfnB K "Filterer" "__init__" = true ∧ cfnB K "Handler" "__init__" = true ∧ dicKB K (ga K "FIRST_NAMES") kvNames = true ∧ dicKB K (ga K "FIRST_NUMBERS") kvNumbers = true ∧ dicKB K (ga K "MESSAGE_ALONE") kvAlone = true ∧ inhB K inhs = true ∧ cmpB K cmps = true ∧ kitsB K kits = true := by
  obtain ⟨a, h⟩ := ba T.more
  obtain ⟨b, h⟩ := ba h
  obtain ⟨c, h⟩ := ba h
  obtain ⟨d, h⟩ := ba h
  obtain ⟨e, h⟩ := ba h
  obtain ⟨f, h⟩ := ba h
  obtain ⟨g, h⟩ := ba h
  exact ⟨a, b, c, d, e, f, g, h⟩
theorem cf_Filterer_init (T : Txt w K mg) : CFn K (ga K "Filterer") "__init__" (ma K (ga K "Filterer") "__init__") := cfn_ok T.exs.1
theorem cf_Handler_init (T : Txt w K mg) : CFn K (ga K "Handler") "__init__" (ma K (ga K "Handler") "__init__") := cfn_ok T.exs.2.1
theorem hashes (T : Txt w K mg) (i : Nat) {t : Tab} (h : ts[i]? = some t := by rfl) : ∀ oc od es n sl, K.lookup (t.1 K) = some ⟨oc, od, .dict es n, sl⟩ → ∀ e ∈ es.toList, ∀ x u, e.key = .str x u → e.hash = hashStr w x := fun oc od es n sl q e he x u hx => by
  obtain ⟨es', n', D⟩ := T.says.tab i h
  have z := D.at_
  rw [q] at z
  cases z
  obtain ⟨y, v, e1, e2⟩ := D.lit.all e he
  rw [hx] at e1
  cases e1
  exact e2
theorem d_NAMES {P : Program} {h : Heap} (T : Txt w K mg) (X : K.In h) : (ga K "FIRST_NAMES" == sysModules) = false ∧ ∃ vs, KV kvNames vs ∧ h.DictOf (mixKind P w) (ga K "FIRST_NAMES") vs := dicKB_okI T.exs.2.2.1 X
theorem d_NUMBERS {P : Program} {h : Heap} (T : Txt w K mg) (X : K.In h) : (ga K "FIRST_NUMBERS" == sysModules) = false ∧ ∃ vs, KV kvNumbers vs ∧ h.DictOf (mixKind P w) (ga K "FIRST_NUMBERS") vs := dicKB_ok T.exs.2.2.2.1 X (T.hashes 0)
theorem d_ALONE {P : Program} {h : Heap} (T : Txt w K mg) (X : K.In h) : (ga K "MESSAGE_ALONE" == sysModules) = false ∧ ∃ vs, KV kvAlone vs ∧ h.DictOf (mixKind P w) (ga K "MESSAGE_ALONE") vs := dicKB_ok T.exs.2.2.2.2.1 X (T.hashes 1)
theorem in_Handler_addFilter (T : Txt w K mg) : ma K (ga K "Handler") "addFilter" = ma K (ga K "Filterer") "addFilter" := inh_ok T.exs.2.2.2.2.2.1 (by simp [inhs])
theorem in_StreamHandler_setLevel (T : Txt w K mg) : ma K (ga K "StreamHandler") "setLevel" = ma K (ga K "Handler") "setLevel" := inh_ok T.exs.2.2.2.2.2.1 (by simp [inhs])
theorem in_StreamHandler_setFormatter (T : Txt w K mg) : ma K (ga K "StreamHandler") "setFormatter" = ma K (ga K "Handler") "setFormatter" := inh_ok T.exs.2.2.2.2.2.1 (by simp [inhs])
theorem in_StreamHandler_setTerminator (T : Txt w K mg) : ma K (ga K "StreamHandler") "setTerminator" = ma K (ga K "Handler") "setTerminator" := inh_ok T.exs.2.2.2.2.2.1 (by simp [inhs])
theorem in_StreamHandler_addFilter (T : Txt w K mg) : ma K (ga K "StreamHandler") "addFilter" = ma K (ga K "Filterer") "addFilter" := inh_ok T.exs.2.2.2.2.2.1 (by simp [inhs])
theorem in_NullHandler_init (T : Txt w K mg) : ma K (ga K "NullHandler") "__init__" = ma K (ga K "Handler") "__init__" := inh_ok T.exs.2.2.2.2.2.1 (by simp [inhs])
theorem in_NullHandler_setLevel (T : Txt w K mg) : ma K (ga K "NullHandler") "setLevel" = ma K (ga K "Handler") "setLevel" := inh_ok T.exs.2.2.2.2.2.1 (by simp [inhs])
theorem in_NullHandler_setFormatter (T : Txt w K mg) : ma K (ga K "NullHandler") "setFormatter" = ma K (ga K "Handler") "setFormatter" := inh_ok T.exs.2.2.2.2.2.1 (by simp [inhs])
theorem in_NullHandler_setTerminator (T : Txt w K mg) : ma K (ga K "NullHandler") "setTerminator" = ma K (ga K "Handler") "setTerminator" := inh_ok T.exs.2.2.2.2.2.1 (by simp [inhs])
theorem in_NullHandler_addFilter (T : Txt w K mg) : ma K (ga K "NullHandler") "addFilter" = ma K (ga K "Filterer") "addFilter" := inh_ok T.exs.2.2.2.2.2.1 (by simp [inhs])
theorem in_MemoryHandler_setLevel (T : Txt w K mg) : ma K (ga K "MemoryHandler") "setLevel" = ma K (ga K "Handler") "setLevel" := inh_ok T.exs.2.2.2.2.2.1 (by simp [inhs])
theorem in_MemoryHandler_setFormatter (T : Txt w K mg) : ma K (ga K "MemoryHandler") "setFormatter" = ma K (ga K "Handler") "setFormatter" := inh_ok T.exs.2.2.2.2.2.1 (by simp [inhs])
theorem in_MemoryHandler_setTerminator (T : Txt w K mg) : ma K (ga K "MemoryHandler") "setTerminator" = ma K (ga K "Handler") "setTerminator" := inh_ok T.exs.2.2.2.2.2.1 (by simp [inhs])
theorem in_MemoryHandler_addFilter (T : Txt w K mg) : ma K (ga K "MemoryHandler") "addFilter" = ma K (ga K "Filterer") "addFilter" := inh_ok T.exs.2.2.2.2.2.1 (by simp [inhs])
theorem in_QueueHandler_setLevel (T : Txt w K mg) : ma K (ga K "QueueHandler") "setLevel" = ma K (ga K "Handler") "setLevel" := inh_ok T.exs.2.2.2.2.2.1 (by simp [inhs])
theorem in_QueueHandler_setFormatter (T : Txt w K mg) : ma K (ga K "QueueHandler") "setFormatter" = ma K (ga K "Handler") "setFormatter" := inh_ok T.exs.2.2.2.2.2.1 (by simp [inhs])
theorem in_QueueHandler_setTerminator (T : Txt w K mg) : ma K (ga K "QueueHandler") "setTerminator" = ma K (ga K "Handler") "setTerminator" := inh_ok T.exs.2.2.2.2.2.1 (by simp [inhs])
theorem in_QueueHandler_addFilter (T : Txt w K mg) : ma K (ga K "QueueHandler") "addFilter" = ma K (ga K "Filterer") "addFilter" := inh_ok T.exs.2.2.2.2.2.1 (by simp [inhs])
theorem in_Logger_addFilter (T : Txt w K mg) : ma K (ga K "Logger") "addFilter" = ma K (ga K "Filterer") "addFilter" := inh_ok T.exs.2.2.2.2.2.1 (by simp [inhs])
theorem cc_Filter (T : Txt w K mg) : CmpC K (ga K "Filter") := cmp_ok T.exs.2.2.2.2.2.2.1 (by simp [cmps])
theorem cc_StreamHandler (T : Txt w K mg) : CmpC K (ga K "StreamHandler") := cmp_ok T.exs.2.2.2.2.2.2.1 (by simp [cmps])
theorem cc_NullHandler (T : Txt w K mg) : CmpC K (ga K "NullHandler") := cmp_ok T.exs.2.2.2.2.2.2.1 (by simp [cmps])
theorem cc_Field (T : Txt w K mg) : CmpC K (ga K "Field") := cmp_ok T.exs.2.2.2.2.2.2.1 (by simp [cmps])
theorem cc_Formatter (T : Txt w K mg) : CmpC K (ga K "Formatter") := cmp_ok T.exs.2.2.2.2.2.2.1 (by simp [cmps])
theorem cc_MemoryHandler (T : Txt w K mg) : CmpC K (ga K "MemoryHandler") := cmp_ok T.exs.2.2.2.2.2.2.1 (by simp [cmps])
theorem cc_Queue (T : Txt w K mg) : CmpC K (ga K "Queue") := cmp_ok T.exs.2.2.2.2.2.2.1 (by simp [cmps])
theorem cc_QueueHandler (T : Txt w K mg) : CmpC K (ga K "QueueHandler") := cmp_ok T.exs.2.2.2.2.2.2.1 (by simp [cmps])
theorem cc_Logger (T : Txt w K mg) : CmpC K (ga K "Logger") := cmp_ok T.exs.2.2.2.2.2.2.1 (by simp [cmps])
theorem cc_Yard (T : Txt w K mg) : CmpC K (ga K "Yard") := cmp_ok T.exs.2.2.2.2.2.2.1 (by simp [cmps])
theorem ki_Field_str (T : Txt w K mg) : PySem.W.kitOne K (.ref (ga K "Field")) (.type "str") = some false := kits_ok T.exs.2.2.2.2.2.2.2 (by simp [kits])
theorem ki_Field_int (T : Txt w K mg) : PySem.W.kitOne K (.ref (ga K "Field")) (.type "int") = some false := kits_ok T.exs.2.2.2.2.2.2.2 (by simp [kits])
theorem ki_Field_bool (T : Txt w K mg) : PySem.W.kitOne K (.ref (ga K "Field")) (.type "bool") = some false := kits_ok T.exs.2.2.2.2.2.2.2 (by simp [kits])
theorem ki_Field_tuple (T : Txt w K mg) : PySem.W.kitOne K (.ref (ga K "Field")) (.type "tuple") = some false := kits_ok T.exs.2.2.2.2.2.2.2 (by simp [kits])
theorem ki_Field_list (T : Txt w K mg) : PySem.W.kitOne K (.ref (ga K "Field")) (.type "list") = some false := kits_ok T.exs.2.2.2.2.2.2.2 (by simp [kits])
end Txt
end Ry
namespace Ry
open PySem PySem.W PySem.Calls PyProof.Rows He RyH
abbrev R : OpenRow := OpenLaw.row PySem.Challenge.rw_recordyard_k71_deeds_told
abbrev qv : Program := view R.prog [lawPlace]
def tf : List Defn := [("_law_odd", none)]
abbrev hk : Hook := hookR need fa fn ts tf ex
def ob (s : SharedT) : AlX := obsR need fa fn ts tf ex (HandSHeadRun.getT s)
theorem runF (w : World) : HandSHeadRun.RunEq R qv hk ob 40000 names (w.withFollow "special-get-raises" false) := by
  intro os
  kernel_rfl
theorem runT (w : World) : HandSHeadRun.RunEq R qv hk ob 40000 names (w.withFollow "special-get-raises" true) := by
  intro os
  kernel_rfl
theorem run (w : World) : HandSHeadRun.RunEq R qv hk ob 40000 names w :=
  byRow2 "special-get-raises" (P := fun w => HandSHeadRun.RunEq R qv hk ob 40000 names w) runF runT w
theorem ob_eq (s : SharedT) : ob s = hk.obs s.abs := obsR_eq (HandSHeadRun.getT_eq s)
end Ry
set_option maxHeartbeats 4000000
/-! Rules that the layer lacks: in, not in over lists of own instances; d.update(d2). -/
namespace RyR
open PySem PySem.Spec PyProof.Rows
open L2 hiding St
open RyH
abbrev Looks := @PySem.W.Looks
abbrev St := L2.St
theorem mro_any {K : PySem.W.Frag} {C : Addr} {r : Bool} (h : PySem.W.mroIn K C (.type "object") = some r) (base : Value) : ∃ b, PySem.W.mroIn K C base = some b := by
  unfold PySem.W.mroIn at h ⊢
  obtain ⟨cd, a, b⟩ := Option.bind_eq_some_iff.mp h
  rw [a]
  show ∃ b, (if cd.mro.isEmpty = true then none else some (cd.mro.contains base)) = some b
  split at b
  · cases b
  · rename_i q
    exact ⟨_, if_neg q⟩
/-- the thing at a is of the type T and compares by identity -/
structure Idt (K : PySem.W.Frag) (s : Shared) (a : Addr) (T : Value) : Prop where
  at_ : ∃ o, s.heap.get? a = some o ∧ o.cls = T
  nt : T ≠ .type "tuple"
  ty : ∀ M, Looks M s.heap (typeOf (.ref a)) T
  sub : ∀ base, ∃ b, PySem.W.subIn K T base = some b
  try_ : ∀ (prog : Program) (w : World) (A : Around) (E : Value → Shared → Prop) b ob, s.heap.get? b = some ob → a ≠ b → wpAny (model prog w) A (tryCompare (.ref a) "__eq__" (.ref b)) (fun r s' => r = none ∧ s' = s) E s
theorem idt_ins {K : PySem.W.Frag} {s : Shared} {a C : Addr} {o : Obj} {od : Option Obj} (X : K.In s.heap) (I : PySem.W.InstAt s.heap a o C od) (c : CmpC K C) : Idt K s a (.ref C) := by
  refine ⟨⟨o, I.at_, I.cls⟩, fun z => (by cases z), fun M => I.type, fun base => mro_any c.ob base, fun prog w A E b ob hb hne => ?_⟩
  unfold tryCompare
  refine wpAny_bind (HN.ifBound_objEq X I c.eq ?_)
  refine wpAny_call (codeAny_call_builtin F.cmp_object.eq.plain F.cmpEntry_eq (PySem.W.check_slot F.cmpKind_eq F.cmpSplit_eq (I.type.andThen (PySem.W.looks_mroIn X c.ob)) (F.cmpArgs_eq _ _) ?_))
  refine objEq_entry_other hne I.at_ hb (by rw [I.cls]; intro z; cases z) ?_
  exact wpAny_pure ⟨rfl, rfl⟩
theorem rc_other {K : PySem.W.Frag} {A : Around} {s : Shared} {a b : Addr} {T U : Value} (hu : A.units < cLine) (X : K.In s.heap) (ha : Idt K s a T) (hb : Idt K s b U) (hne : a ≠ b) : SeqAt.RcAt A s (.ref a) (.ref b) false := fun prog w E Q h => by
  obtain ⟨oa, ea, ca⟩ := ha.at_
  obtain ⟨ob, eb, cb⟩ := hb.at_
  have one := ha.try_ prog w A E b ob eb hne
  have two := hb.try_ prog w A E a oa ea (Ne.symm hne)
  have fin : ∀ {k : Bool → Sem Value}, k false = pure (.bool false) → wpAny (model prog w) A (isSame (.ref a) (.ref b) >>= k) Q E s := fun {k} e =>
    wpAny_bind (wpAny_isSame_ref_other hne ea eb (by rw [ca]; exact ha.nt) (by rw [e]; exact wpAny_pure h))
  simp only [richCompare, cmpInfo_Eq, oneThing_ref]
  refine wpAny_holding (wpAny_bind (wpAny_cRoomFor hu ?_))
  refine wpAny_bind ((ha.ty _).here ?_)
  refine wpAny_bind ((hb.ty _).here ?_)
  have rest : ∀ r : Bool, wpAny (model prog w) A (do
      if r = true then
        if let some v ← tryCompare (.ref b) "__eq__" (.ref a) then rule "compare.subclass-reflected-first"; return v
      if let some v ← tryCompare (.ref a) "__eq__" (.ref b) then return v
      if (!r) = true then
        if let some v ← tryCompare (.ref b) "__eq__" (.ref a) then return v
      rule "compare.eq-identity"; return .bool (← isSame (.ref a) (.ref b))) Q E s := fun r => by
    cases r
    · simp only [Bool.false_eq_true, if_false, Bool.not_false, if_true]
      refine wpAny_bind (m := tryCompare (.ref a) _ (.ref b)) (wpAny_mono one (fun r s1 z => ?_) fun _ _ e => e)
      obtain ⟨z1, z2⟩ := z
      subst z1
      subst z2
      refine wpAny_bind (m := tryCompare (.ref b) _ (.ref a)) (wpAny_mono two (fun r s2 z => ?_) fun _ _ e => e)
      obtain ⟨z1, z2⟩ := z
      subst z1
      subst z2
      exact wpAny_bind (wpAny_rule (fin rfl))
    · simp only [Bool.not_true, Bool.false_eq_true, if_false, if_true]
      refine wpAny_bind (m := tryCompare (.ref b) _ (.ref a)) (wpAny_mono two (fun r s1 z => ?_) fun _ _ e => e)
      obtain ⟨z1, z2⟩ := z
      subst z1
      subst z2
      refine wpAny_bind (m := tryCompare (.ref a) _ (.ref b)) (wpAny_mono one (fun r s2 z => ?_) fun _ _ e => e)
      obtain ⟨z1, z2⟩ := z
      subst z1
      subst z2
      exact wpAny_bind (wpAny_rule (fin rfl))
  split
  · obtain ⟨r, er⟩ := hb.sub T
    exact wpAny_bind ((PySem.W.looks_subIn X er).here (rest r))
  · exact wpAny_bind (wpAny_pure (rest false))
theorem idt_eq {K : PySem.W.Frag} {A : Around} {s : Shared} {a b : Addr} {T U : Value} (hu : A.units < cLine) (X : K.In s.heap) (ha : Idt K s a T) (hb : Idt K s b U) : SeqAt.EqAt A s (.ref a) (.ref b) (decide (a = b)) := by
  by_cases e : a = b
  · subst e
    rw [decide_eq_true rfl]
    exact SeqAt.EqAt.same _
  · rw [decide_eq_false e]
    exact SeqAt.EqAt.of_refs e (rc_other hu X ha hb e)
/-- a function, known by its class alone -/
def FnO (a : Addr) : HO := .ext fun h => ∃ o, h.get? a = some o ∧ o.cls = .type "function"
/-- an instance that compares by identity, or a function -/
def CmpV (K : PySem.W.Frag) (H : Hp) (a : Addr) : Prop := (∃ C dx fs, H a = some (.ins C dx fs) ∧ CmpC K C) ∨ H a = some (FnO a)
theorem slot_fn_eq : Slot "function" "__eq__" "object.__eq__" := .of (owner := "object") (n := "__eq__") (by rw [typeLookup_type, builtinLookup_eq_fast]; kernel_rfl) (by decide +kernel) (by decide +kernel) (by decide +kernel)
    (by first | exact .inl (by decide +kernel) | exact .inr (by decide +kernel)) (by rw [isSubtype_type]; kernel_rfl)
theorem fn_sub (K : PySem.W.Frag) (base : Value) : ∃ b, PySem.W.subIn K (.type "function") base = some b := by
  have e : fastBuiltinMro "function" = some [.type "function", .type "object"] := by decide +kernel
  show ∃ b, (fastBuiltinMro "function").map (·.contains base) = some b
  rw [e]
  exact ⟨_, rfl⟩
theorem idt_fn {K : PySem.W.Frag} {s : Shared} {a : Addr} {o : Obj} (e : s.heap.get? a = some o) (c : o.cls = .type "function") : Idt K s a (.type "function") := by
  refine ⟨⟨o, e, c⟩, (by decide), fun M => ?_, fun base => fn_sub K base, fun prog w A E b ob hb hne => ?_⟩
  · exact c ▸ (PySem.W.Looks.ld e).andThen .now
  · have t : s.TypeIs (.ref a) "function" := ⟨o, e, c⟩
    refine wpAny_tryCompare_declines t slot_fn_eq (wpAny_call (codeAny_call_builtin slot_fn_eq.plain F.cmpEntry_eq (slot_fn_eq.check _ _ _ _ _ _ _ _ t (F.cmpArgs_eq _ _) ?_)))
    refine objEq_entry_other hne e hb (by rw [c]; decide) ?_
    exact ⟨rfl, rfl, rfl⟩
section
variable {X : Cx}
theorem idt_of {pins : List (Addr × Obj)} {σ : St} {H : Hp} {s : Shared} {a : Addr} (I : Inv X pins σ H s) (c : CmpV X.K H a) : ∃ T, Idt X.K s a T := by
  rcases c with ⟨C, dx, fs, e, c⟩ | e
  · obtain ⟨mA, O, _⟩ := ins_get I.hok e
    obtain ⟨od, J, _⟩ := O.look
    exact ⟨_, idt_ins I.kIn J c⟩
  · obtain ⟨⟨o, e1, e2⟩, _⟩ := I.hok a _ e
    exact ⟨_, idt_fn e1 e2⟩
def refIs (a : Addr) : Value → Bool
  | .ref b => decide (b = a)
  | _ => false
theorem any_ref {a : Addr} : ∀ {ps : List Addr} {us : List Value}, Vals (ps.map V.ref) us → us.any (refIs a) = decide (a ∈ ps)
  | [], _, .nil => by simp
  | p :: ps, _, .cons r t => by
    cases r
    rw [List.any_cons, any_ref t]
    by_cases e : p = a
    · subst e
      simp [refIs]
    · have e2 : ¬ a = p := fun z => e z.symm
      simp [refIs, e, e2]
theorem mem_ref {A : Around} {pins : List (Addr × Obj)} {σ : St} {H : Hp} {s : Shared} {a : Addr} (hu : A.units < cLine) (I : Inv X pins σ H s) (c : CmpV X.K H a) : ∀ {ps : List Addr} {us : List Value}, Vals (ps.map V.ref) us → (∀ p ∈ ps, CmpV X.K H p) →
    ∀ u ∈ us, SeqAt.EqAt A s u (.ref a) (refIs a u)
  | [], _, .nil, _ => fun u hu' => by cases hu'
  | p :: ps, _, .cons r t, f => fun u' hu' => by
    rcases List.mem_cons.mp hu' with e | hu'
    · subst e
      cases r
      obtain ⟨T, ha⟩ := idt_of I c
      obtain ⟨U, hb⟩ := idt_of I (f p (List.mem_cons_self ..))
      exact idt_eq hu I.kIn hb ha
    · exact mem_ref hu I c t (fun z hz => f z (List.mem_cons_of_mem _ hz)) u' hu'
/-- x in ps: own instances or functions, by identity -/
def rInI (K : PySem.W.Frag) (neg : Bool) : R2 := fun x y H Q => ∃ (p a : Addr) (ps : List Addr), x = .ref a ∧ y = .ref p ∧ SqL K H p (ps.map V.ref) ∧ CmpV K H a ∧ (∀ z ∈ ps, CmpV K H z) ∧ Q (.bl (if neg then !decide (a ∈ ps) else decide (a ∈ ps))) H
theorem op_inI (hu : X.A.units + 64 < cLine) : OpR X (compareOp .In) (rInI X.K false) := by
  intro pins s σ H x y v u Q I rx ry h
  obtain ⟨p, a, ps, rfl, rfl, hq, c, f, q⟩ := h
  cases rx
  cases ry
  obtain ⟨its, rv, hl, _⟩ := I.list hq
  have hu1 : X.A.in1.units < cLine := by show X.A.units + 1 < cLine; omega
  refine SeqAt.in_listAt (refIs a) hl.isList (fun z hz => mem_ref hu1 I c rv f z (by simpa using hz)) ⟨.bl _, H, I, rfl, ?_⟩
  rw [show its.toArray.any (refIs a) = its.any (refIs a) by simp, any_ref rv]
  exact q
theorem op_notInI (hu : X.A.units + 64 < cLine) : OpR X (compareOp .NotIn) (rInI X.K true) := by
  intro pins s σ H x y v u Q I rx ry h
  obtain ⟨p, a, ps, rfl, rfl, hq, c, f, q⟩ := h
  cases rx
  cases ry
  obtain ⟨its, rv, hl, _⟩ := I.list hq
  have hu1 : X.A.in1.units < cLine := by show X.A.units + 1 < cLine; omega
  refine SeqAt.notIn_listAt (refIs a) hl.isList (fun z hz => mem_ref hu1 I c rv f z (by simpa using hz)) ⟨.bl _, H, I, rfl, ?_⟩
  rw [show its.toArray.any (refIs a) = its.any (refIs a) by simp, any_ref rv]
  exact q
end
/-! ### d.update(d2), keys ints and texts -/
def tDUpd (td ty : TE) : TE := fun σ H Q => td σ H fun x H1 => ∃ a, x = .ref a ∧ IsD H1 a ∧ ty σ H1 fun y H2 => ∃ (o : Addr) (kvs more : List (Key × V)), y = .ref o ∧ a ≠ o ∧ H2 a = some (.dK kvs) ∧ H2 o = some (.dK more) ∧ kvs.length + more.length ≤ sizeLine ∧ Q .non (upd H2 a (.dK (mergeK kvs more)))
section
variable {X : Cx} {pins : List (Addr × Obj)} {σ : St} {H : Hp} {s : Shared} {a b : Addr} {kvs more : List (Key × V)} {A : Around} {E : Value → Shared → Prop}
theorem d_update {Q : Value → Shared → Prop} (I : Inv X pins σ H s) (hne : a ≠ b) (e : H a = some (.dK kvs)) (e2 : H b = some (.dK more)) (hz : kvs.length + more.length ≤ sizeLine) (h : ∀ s', Inv X pins σ (upd H a (.dK (mergeK kvs more))) s' → Q .none s') :
    wpAny (model X.prog X.w) A (call (.builtin "dict.update") [.ref a, .ref b]) Q E s := by
  obtain ⟨z1, hd, vs, rel, dd⟩ := dk_of I.hok e
  obtain ⟨z2, hd2, ws, rel2, dd2⟩ := dk_of I.hok e2
  have hl : (mergeK kvs more).length ≤ sizeLine := Nat.le_trans (length_mergeK more kvs) hz
  refine call_meetsIn PySem.F.slot_dict_update dd.typeIs PySem.F.entry_dict_update (PySem.F.args_dict_update_2 _ _) (meets_dict_update (mixKind X.prog X.w) a b hne hd2) ⟨vs, ws, dd, dd2, by rw [← rel.length, ← rel2.length]; exact hz, fun h' dd' _ hs => h _ ?_⟩
  have he : ∃ q, h'.get? a = some q := let ⟨q, _, _, hq, _⟩ := dd'; ⟨q, hq⟩
  exact d_write I (by rw [e]; exact True.intro) hs he (dk_new hl hd (rel2.merge rel) dd')
end
section
variable {X : Cx} {o e : Expr} {apos cpos : Pos} {td ty : TE}
theorem pe_dupd (ho : PE X o td) (he : PE X e ty) (m : M1 X o "update" apos e cpos) : PE X (.Call (.Attribute o "update" apos) [e] [] cpos) (tDUpd td ty) := by
  refine ⟨fun pins s σ H Q I h => ?_⟩
  refine wpAny_Call_method m.base m.few m.line PySem.F.plainAttrs_dict PySem.F.slot_dict_update PySem.F.type_dict_update (thn (ho.run pins s σ H _ I h) fun u s1 ⟨x, H1, I1, rx, a, ex, d, q1⟩ => ?_)
  subst ex
  obtain rfl : u = Value.ref a := rx
  obtain ⟨t1, t2, _⟩ := isD_at I1 d
  refine ⟨t1, t2, ?_⟩
  rw [m.trees]
  refine Calls.callWith_builtin rfl (Calls.evalArgs_plain (Calls.spliced_cons (thn (he.run pins s1 σ H1 _ I1 q1) fun iv s2 ⟨y, H2, I2, ry, b, kvs, more, ey, hne, e1, e2, hz, q2⟩ => Calls.spliced_nil ?_)))
  subst ey
  obtain rfl : iv = Value.ref b := ry
  exact d_update I2 hne e1 e2 hz fun s3 I3 => ⟨.non, _, I3, rfl, q2⟩
end
end RyR
/-! One token out: for with such a body, if, x = e, a + e, text.replace('..', '..') of two written texts. -/
namespace RyT
open PySem PySem.Spec PyProof.Rows
open L2 hiding St
abbrev St := L2.St
theorem thnT {α : Type} {M : Model} {A : Around} {t : Sem α} {Q Q' : α → Shared → Prop} {E : Value → Shared → Prop} {s : Shared} (h : wpAny M A t Q E s) (h0 : 1 ≤ s.toks) (f : ∀ v s1, 1 ≤ s1.toks → Q v s1 → Q' v s1) : wpAny M A t Q' E s :=
  wpAny_mono (PySem.wpAny_toks h) (fun v s1 q => f v s1 (Nat.le_trans h0 q.1) q.2) fun _ _ x => x.2
section
variable {X : Cx} {st : Stmt} {rest : List Stmt} {t u : TS}
theorem psst_one (h : PST X st t) : PSsT X [st] t := by
  intro pins s σ H D h0 I q
  refine wpAny_execs_cons (thn (h pins s σ H D h0 I q) fun f s1 q => ?_)
  cases f with
  | next =>
    obtain ⟨σ', H', I', q⟩ := q
    exact wpAny_execs_nil ⟨σ', H', I', q⟩
  | ret v => exact q
  | brk => exact q
  | cont => exact q
theorem pst_forT {tg iter : Expr} {body : List Stmt} {wi : TI} {g : TG} {tb : TS} {pos : Pos} (hp : PassesOwn (model X.prog X.w) X.A X.env X.xe) (hc : X.calm = true) (hi : PI X tg iter wi) (hg : PG X tg g) (hb : PSsT X body tb)
    (hs : ∀ x, foldedSetIterable iter X.env x = pure x := by intro _; rfl) : PST X (.For tg iter body [] pos) (tFor wi g tb) := by
  intro pins s σ H D h0 I h
  refine wpAny_For (thnT (hi.run pins s σ H _ I h) h0 fun v s1 t1 h1 => thnT h1 t1 fun itv s2 t2 h2 => ?_) hs
  obtain ⟨it, fp, tn, J, H2, e, I2, T, st2, f2, W, ⟨m0, w0⟩, turn⟩ := h2
  subst e
  have stat : ∀ {H' : Hp}, (∀ b ∈ fp, H' b = none) → ∀ b ∈ fp, FpOk X pins H' b := fun hn b hb => ⟨hn b hb, (f2 b hb).2⟩
  refine codeAny_forLoop_any (fun n s' => 1 ≤ s'.toks ∧ ∃ i σ' H', Inv X pins σ' H' s' ∧ tn i s'.heap ∧ (∀ b ∈ fp, H' b = none) ∧ W i n σ' H') ?_ m0 ⟨t2, 0, σ, H2, I2, st2, fun b hb => (f2 b hb).1, w0⟩
  rintro n s3 ⟨t3, i, σ3, H3, I3, st3, fr3, w3⟩
  rcases turn i n σ3 H3 w3 with ⟨stop, qn⟩ | ⟨go, N, hN, step⟩
  · refine wpAny_passesOwn hp (thn (T.done X rfl rfl rfl hc i pins s3 σ3 H3 X.xe I3 (stat fr3) st3 stop) fun r s4 ⟨hr, I4⟩ => ?_)
    subst hr
    exact wpAny_execs_nil ⟨σ3, H3, I4, qn⟩
  · refine wpAny_passesOwn hp (thnT (T.item X rfl rfl rfl hc i pins s3 σ3 H3 X.xe I3 (stat fr3) st3 go) t3 fun r s4 t4 ⟨u, hr, h4⟩ => ?_)
    subst hr
    refine wpAny_passesOwn hp (thnT h4 t4 fun _ s5 t5 ⟨x, H5, I5, r5, y5, st5, fr5⟩ => ?_)
    have I5' := I5.pinned (stat fr5) (T.obj _ _ st5)
    refine wpAny_passesOwn hp (thnT (hg.run _ s5 σ3 H5 x u _ I5' r5 (step x H5 y5)) t5 fun _ s6 t6 ⟨σ6, H6, I6, q6⟩ => ?_)
    refine wpAny_passesOwn hp (thnT (hb _ s6 σ6 H6 _ t6 I6 q6) t6 fun f s7 t7 q7 => ?_)
    have again : ∀ {σ7 : St} {H7 : Hp}, Inv X (pins ++ pinsAt fp s5.heap) σ7 H7 s7 → N σ7 H7 → ∃ m, m < n ∧ (1 ≤ s7.toks ∧ ∃ i σ' H', Inv X pins σ' H' s7 ∧ tn i s7.heap ∧ (∀ b ∈ fp, H' b = none) ∧ W i m σ' H') := fun {σ7 H7} I7 n7 => by
      obtain ⟨m', hm, w7⟩ := hN σ7 H7 n7
      refine ⟨m', hm, t7, i + 1, σ7, H7, I7.unpinned, T.keep _ _ _ st5 fun b hb o e => (I7.pin (b, o) (List.mem_append_right _ (List.mem_append_right _ (mem_pinsAt hb e)))).1, fun b hb => ?_, w7⟩
      obtain ⟨o, e, d⟩ := T.obj _ _ st5 b hb
      exact (I7.pin (b, o) (List.mem_append_right _ (List.mem_append_right _ (mem_pinsAt hb e)))).2.1
    cases f with
    | next => obtain ⟨σ7, H7, I7, n7⟩ := q7; exact again I7 n7
    | cont => obtain ⟨σ7, H7, I7, n7⟩ := q7; exact again I7 n7
    | brk => obtain ⟨σ7, H7, I7, q7⟩ := q7; exact ⟨σ7, H7, I7.unpinned, q7⟩
    | ret v => obtain ⟨x7, σ7, H7, I7, r7, q7⟩ := q7; exact ⟨x7, σ7, H7, I7.unpinned, r7, q7⟩
end
section
variable {X : Cx} {pos : Pos} {t u : TS} {a b o : Expr} {ta tb to : TE}
theorem pst_if {c : Expr} {sa sb : List Stmt} {tc : TT} (hc : PT X c tc) (ha : PSsT X sa t) (hb : PSsT X sb u) : PST X (.If c sa sb pos) (tIfS tc t u) := by
  intro pins s σ H D h0 I h
  refine wpAny_If (thnT (hc.run pins s σ H _ I h) h0 fun d s1 t1 ⟨H1, I1, q1⟩ => ?_)
  cases d with
  | true => exact ha pins s1 σ H1 D t1 I1 q1
  | false => exact hb pins s1 σ H1 D t1 I1 q1
theorem pst_set {i : Nat} {x : Str} {e : Expr} {te : TE} {pos' : Pos} (hN : X.N.Nodup) (hi : X.N[i]? = some x) (hx : Loc X.env.scope x) (he : PET X e te) (hs : swapsWith e (some (.Name x pos')) pos.line X.env = pure false := by rfl) (hf : X.fn x = true ∨ X.env.scope.names.lookup x = some .local := by first | exact .inl rfl | exact .inr rfl | assumption) :
    PST X (.Assign [.Name x pos'] e pos) (tAsg te (gName i)) := by
  intro pins s σ H D h0 I h
  refine wpAny_Assign_Name (thn (he pins s σ H _ h0 I h) fun v s1 ⟨y, H1, I1, r1, q1⟩ => ?_) hs
  exact store_ok I1 hN hi hx r1 (fun s2 I2 => ⟨_, H1, I2, q1⟩) hf
theorem pet_of {te : TE} (h : PE X a te) : PET X a te := fun pins s σ H Q _ I q => h.run pins s σ H Q I q
theorem pet_op {op : Operator} {r : R2} (ho : OpR X (binaryOp op) r) (ha : PE X a ta) (hb : PET X b tb) : PET X (.BinOp a op b pos) (tOp r ta tb) := by
  intro pins s σ H Q h0 I h
  refine wpAny_BinOp (thnT (ha.run pins s σ H _ I h) h0 fun v s1 t1 ⟨x, H1, I1, rx, q1⟩ => ?_)
  exact thn (hb pins s1 σ H1 _ t1 I1 q1) fun u s2 ⟨y, H2, I2, ry, q2⟩ => ho pins s2 σ H2 x y v u Q I2 rx ry q2
/-- e.replace('..', '..') -/
def tRepl (to : TE) (y z : Str) : TE := fun σ H Q => to σ H fun x H1 => ∃ a, x = .str a ∧ a.length + (a.length + 1) * z.length ≤ 16777216 ∧ Q (.str (Txt.replace a y z)) H1
theorem pet_repl {y z : Str} {j0 j1 : Nat} {c0 c1 apos : Pos} (hyz : (y == z) = false) (ho : PET X o to) (hbase : attributeBase o "replace" X.env (eval o X.env) = eval o X.env := by rfl) (hline : (apos.endLine == pos.line) = true := by rfl)
    (hst : starEach [.Constant (.str y) j0 c0, .Constant (.str z) j1 c1] X.env = [(false, eval (.Constant (.str y) j0 c0) X.env), (false, eval (.Constant (.str z) j1 c1) X.env)] := by rfl) :
    PET X (.Call (.Attribute o "replace" apos) [.Constant (.str y) j0 c0, .Constant (.str z) j1 c1] [] pos) (tRepl to y z) := by
  intro pins s σ H Q h0 I h
  refine PySem.Call_method2 hbase hst hline (thnT (ho pins s σ H _ h0 I h) h0 fun v s1 t1 ⟨x, H1, I1, rx, q1⟩ => ?_)
  obtain ⟨a, e, hb, q⟩ := q1
  subst e
  obtain ⟨tx, e⟩ := rx
  subst e
  refine ⟨"str", _, F.plainAttrs_str, F.slot_str_replace, F.type_str_replace, typeIs_str _ _ _, (fun _ e => nomatch e), Calls.callWith_builtin rfl (Calls.evalArgs_plain (Calls.spliced_cons (Calls.Constant_str ?_)))⟩
  refine Calls.spliced_cons (Calls.Constant_str (Calls.spliced_nil ?_))
  exact PySem.SC.replace (show s1.toks ≠ 0 by omega) (show s1.toks + 1 ≠ 0 by omega) (show s1.toks ≠ s1.toks + 1 by omega) hyz hb fun t' k => ⟨.str (Txt.replace a y z), H1, I1.tok k, ⟨t', rfl⟩, q⟩
end
/-! ### an expression's end, said by oneself -/
def tCutE (te : TE) : TE := fun σ H Q => ∃ Mid : VK, te σ H Mid ∧ ∀ v H', Mid v H' → Q v H'
theorem pe_cutE {X : Cx} {e : Expr} {te : TE} (h : PE X e te) : PE X e (tCutE te) := ⟨fun pins s σ H Q I q => by
  obtain ⟨Mid, h1, h2⟩ := q
  exact thn (h.run pins s σ H Mid I h1) fun v s1 ⟨x, H1, I1, r, q⟩ => ⟨x, H1, I1, r, h2 x H1 q⟩⟩
end RyT
/-! xs != [], xs == [] of any items; xs[i] += text. -/
namespace RyN
open PySem PySem.Spec PyProof.Rows
open L2 hiding St
abbrev St := L2.St
section
variable {X : Cx}
def rNil (K : PySem.W.Frag) (neg : Bool) : R2 := fun x y H Q => ∃ (a b : Addr) (xs : List V), x = .ref a ∧ y = .ref b ∧ SqL K H a xs ∧ SqL K H b [] ∧ Q (.bl (if neg then !xs.isEmpty else xs.isEmpty)) H
theorem op_neNil (hu : X.A.units + 64 < cLine) : OpR X (compareOp .NotEq) (rNil X.K true) := by
  intro pins s σ H x y v u Q I rx ry h
  obtain ⟨a, b, xs, rfl, rfl, ha, hb, q⟩ := h
  cases rx
  cases ry
  obtain ⟨its, rv, pl, _⟩ := I.list ha
  obtain ⟨its2, rv2, pl2, _⟩ := I.list hb
  have e2 : its2 = [] := by
    have := rv2.length
    exact List.eq_nil_of_length_eq_zero this.symm
  subst e2
  have hu0 : X.A.units < cLine := by omega
  cases xs with
  | nil =>
    have e1 : its = [] := List.eq_nil_of_length_eq_zero rv.length.symm
    subst e1
    exact SeqAt.RcNeAt.lists (e := fun _ => true) pl.isList pl2.isList rfl hu0 (fun j h1 _ => absurd h1 (Nat.not_lt_zero _)) X.prog X.w X.xe _ ⟨.bl _, H, I, rfl, q⟩
  | cons z xs =>
    have hl := rv.length
    have hs : (its.toArray.size != ([] : List Value).toArray.size) = true := by
      rw [List.size_toArray, ← hl]
      rfl
    exact SeqAt.RcNeAt.lists_lengths pl.isList pl2.isList hs hu0 X.prog X.w X.xe _ ⟨.bl _, H, I, rfl, q⟩
theorem op_eqNil (hu : X.A.units + 64 < cLine) : OpR X (compareOp .Eq) (rNil X.K false) := by
  intro pins s σ H x y v u Q I rx ry h
  obtain ⟨a, b, xs, rfl, rfl, ha, hb, q⟩ := h
  cases rx
  cases ry
  obtain ⟨its, rv, pl, _⟩ := I.list ha
  obtain ⟨its2, rv2, pl2, _⟩ := I.list hb
  have e2 : its2 = [] := List.eq_nil_of_length_eq_zero rv2.length.symm
  subst e2
  have hu0 : X.A.units < cLine := by omega
  cases xs with
  | nil =>
    have e1 : its = [] := List.eq_nil_of_length_eq_zero rv.length.symm
    subst e1
    exact SeqAt.RcAt.lists (e := fun _ => true) pl.isList pl2.isList rfl hu0 (fun j h1 _ => absurd h1 (Nat.not_lt_zero _)) X.prog X.w X.xe _ ⟨.bl _, H, I, rfl, q⟩
  | cons z xs =>
    have hl := rv.length
    have hs : (its.toArray.size != ([] : List Value).toArray.size) = true := by
      rw [List.size_toArray, ← hl]
      rfl
    exact SeqAt.RcAt.lists_lengths pl.isList pl2.isList hs hu0 X.prog X.w X.xe _ ⟨.bl _, H, I, rfl, q⟩
/-- xs[i], i below 0, as a value -/
def rIxNeg (K : PySem.W.Frag) : V → V → Hp → VK → Prop := fun x y H Q => ∃ p xs i v, x = .ref p ∧ y = .int i ∧ i < 0 ∧ SqL K H p xs ∧ atI xs i = some v ∧ Q v H
theorem get_neg : PGet X (rIxNeg X.K) := by
  intro pins s σ H x y v u Q I rx ry h
  obtain ⟨p, xs, i, z, rfl, rfl, h0, hq, he, q⟩ := h
  cases rx
  obtain ⟨t, rfl⟩ := ry
  obtain ⟨its, r, pl, hz⟩ := I.list hq
  obtain ⟨j, h1, h2, h3, h4, h5⟩ := atI_get he
  obtain ⟨w, ew, rw'⟩ := r.get h2
  have hl := r.length
  have hn := line63
  have fin : EP X pins σ Q w s := ⟨z, H, I, rw', q⟩
  have hj : (i + (its.toArray.size : Int)).toNat = j := by
    rw [seqIndex_neg (by omega) h4] at h1
    rw [List.size_toArray, ← hl]
    exact Option.some.inj h1
  exact wpAny_getItem_list_neg pl.isList (by omega) (by rw [List.size_toArray] <;> omega) (by omega) (by rw [hj]; simpa using ew) fin
theorem ip_of {op : Operator} {r : R2} (h : OpR X (inplaceOp op) r) : PIp X op r := fun pins s σ H x y v u Q I rx ry q => h pins s σ H x y v u Q I rx ry q
/-- a test's end, said by oneself -/
def tCutT (t : TT) : TT := fun σ H Q => ∃ Mid : Bool → Hp → Prop, t σ H Mid ∧ ∀ b H', Mid b H' → Q b H'
theorem pt_cut {c : Expr} {t : TT} (h : PT X c t) : PT X c (tCutT t) := ⟨fun pins s σ H Q I q => by
  obtain ⟨Mid, h1, h2⟩ := q
  exact thn (h.run pins s σ H Mid I h1) fun b s1 ⟨H1, I1, q⟩ => ⟨H1, I1, h2 b H1 q⟩⟩
end
end RyN
set_option pp.maxSteps 400
namespace Ry
open PySem PySem.Spec PyProof.Rows L2 He RyH
open C8 (pss_cut tCut Cal Met Mak pe_c pe_mk pe_mt pe_mt0 pe_gc)
/-! ### the stream of draws -/
/-- the list at s, the script's rest at l; at most n draws were mixed -/
def StAt (H : Hp) (s l : Addr) (n : Nat) : Prop := ∃ (ns : List Int) (a c e : Int), H s = some (.lst [.ref l, .int a, .int c, .int e]) ∧ H l = some (.lst (ns.map V.int)) ∧ ns.length ≤ 63 ∧ 0 ≤ a ∧ 0 ≤ c ∧ c ≤ n ∧ 0 ≤ e ∧ e < 2147483647
/-- all but the objects of M stand as they stood -/
def Kp (M : Addr → Prop) (H H' : Hp) : Prop := ∀ b o, H b = some o → ¬ M b → H' b = some o
def onSt (s l : Addr) : Addr → Prop := fun b => b = s ∨ b = l
theorem Kp.refl {M : Addr → Prop} {H : Hp} : Kp M H H := fun _ _ h _ => h
theorem Kp.trans {M : Addr → Prop} {H H1 H2 : Hp} (a : Kp M H H1) (b : Kp M H1 H2) : Kp M H H2 := fun c o h n => b c o (a c o h n) n
theorem Kp.same {M : Addr → Prop} {H H1 : Hp} (a : Same H H1) : Kp M H H1 := fun c o h _ => a c o h
theorem Kp.new {M : Addr → Prop} {H : Hp} {p : Addr} {o : HO} (h : H p = none) : Kp M H (upd H p o) := fun b u e _ => by rw [upd_ne (ne_of_none e h)]; exact e
theorem Kp.at {M : Addr → Prop} {H : Hp} {p : Addr} {o : HO} (h : M p) : Kp M H (upd H p o) := fun b u e n => by rw [upd_ne (fun z => n (by rw [z]; exact h))]; exact e
theorem Kp.free {M : Addr → Prop} {H H' : Hp} (k : Kp M H H') {p : Addr} (h : H' p = none) (hm : ∀ b, M b → H' b ≠ none) : H p = none := by
  cases q : H p with
  | none => rfl
  | some o =>
    by_cases hp : M p
    · exact absurd h (hm p hp)
    · rw [k p o q hp] at h
      cases h
theorem st_ne {H : Hp} {s l : Addr} {xs : List V} {ns : List Int} (h1 : H s = some (.lst (.ref l :: xs))) (h2 : H l = some (.lst (ns.map V.int))) : s ≠ l := ne_of h1 h2 fun z => by
  cases ns with
  | nil => cases z
  | cons n ns => cases z
theorem dp_ints {K : PySem.W.Frag} {H : Hp} : ∀ ns : List Int, DpAll K H (ns.map V.int) (ns.map PyData.int)
  | [] => .nil
  | n :: ns => .cons (.int n) (dp_ints ns)
theorem canLay_ints : ∀ ns : List Int, PyData.canLayAll0 (ns.map PyData.int) = true
  | [] => by simp [PyData.canLayAll0]
  | n :: ns => by
    show PyData.canLayAll0 (PyData.int n :: ns.map PyData.int) = true
    rw [PyData.canLayAll0, canLay_ints ns]
    simp [PyData.canLay0]
theorem depth_ints : ∀ ns : List Int, PyData.depthAll (ns.map PyData.int) = 0
  | [] => by simp [PyData.depthAll]
  | n :: ns => by
    show PyData.depthAll (PyData.int n :: ns.map PyData.int) = 0
    rw [PyData.depthAll, depth_ints ns]
    simp [PyData.depth]
theorem shaped_ints (ns : List Int) : SeqAt.shaped (.list (ns.map PyData.int)) = true := by
  unfold SeqAt.shaped
  rw [PyData.canLay0, canLay_ints, PyData.depth, depth_ints]
  decide
theorem eqv_ints_nil (ns : List Int) : PyData.eqv (.list (ns.map PyData.int)) (.list []) = ns.isEmpty := by
  cases ns <;> simp [PyData.eqv, PyData.eqvAll]
theorem seqIndex_zero (n : Nat) : seqIndex? 0 (n + 1) = some 0 := by
  unfold seqIndex?
  simp
local macro_rules | `(tactic| walk_at "s") => `(tactic| first
  | refine ⟨_, rfl, ?_⟩
  | refine ⟨_, _, rfl, rfl, ?_⟩
  | refine ⟨_, _, _, _, rfl, rfl, SqL.of upd_same, rfl, ?_⟩
  | refine ⟨_, _, _, _, rfl, rfl, SqL.of (by assumption), rfl, ?_⟩)
def spDraw : Sp := fun vs H Q _ => ∃ (s l : Addr) (m : Int) (n : Nat), vs = [.ref s, .int m] ∧ StAt H s l n ∧ n < 1000000 ∧ 0 < m ∧ m < 1073741824 ∧
  ∀ (d : Int) (H' : Hp), 0 ≤ d → d < m → StAt H' s l (n + 1) → Kp (onSt s l) H H' → Q (.int d) H'
section
variable {P : Program} {w : World} {K : PySem.W.Frag} {mg : Str → Option Value} {base : Heap}
theorem sc_law_draw : FnScope ["_law_stream", "_law_many", "_law_digit", "_law_mixed", "_law_last"] ["_law_stream", "_law_many"] (defScope s_law_draw) := ⟨rfl, rfl, rfl, by decide +kernel, rfl, by decide +kernel, by decide +kernel⟩
theorem ok_law_draw {f : Addr} {fd : FuncData} (T : Txt w K mg) (F : FunD K "_law_draw" "_law_draw" (defArgs s_law_draw) (defBody s_law_draw) (defScope s_law_draw) [] [] f fd) : FnOk P w K mg base CX0 1 f fd ["_law_stream", "_law_many"] spDraw := by
  refine F.ok sc_law_draw (fun vs H Q E h => ?_) (fun cdv A outer s H vs Q E hr h => ?_)
  · obtain ⟨s, l, m, n, rfl, _⟩ := h
    rfl
  · obtain ⟨s, l, m, n, rfl, hs, hn, hm0, hm1, k⟩ := h
    refine ⟨_, PSs.nox (pss_cut (ps_while PassesOwn.never (PW.pt (pw_and (pt_cmpR op_eq (pe_ix ix_list (pv 0) pe_int (fun _ _ => rfl)) pe_int (nomark _)) (pw_and1 (pt_cmpR (op_neD hr.units) (pe_ix ix_list (pv 0) pe_int (fun _ _ => rfl)) (pe_lst pa_nil) (nomark _)))))
    (pss_cons (ps_asg (pe_bm PySem.F.plainAttrs_list PySem.F.slot_list_pop PySem.F.type_list_pop mt_popAt (pe_ix ix_list (pv 0) pe_int (fun _ _ => rfl)) (pa_cons pe_int pa_nil)) (pg_sub (pv 0) pe_int set_list))
    (pss_one (ps_if (pt_cmpR op_lt (pe_ix ix_list (pv 0) pe_int (fun _ _ => rfl)) (pe_op op_pow pe_int pe_int) (nomark _))
      (pss_cons (ps_asg (pe_op op_mod (pe_callTy call_int1 (by rfl) T.f_int (by decide +kernel) (pa_cons (pe_op op_add (pe_op op_add (pe_op op_mul (pe_ix ix_list (pv 0) pe_int (fun _ _ => rfl)) pe_int) (pe_ix ix_list (pv 0) pe_int (fun _ _ => rfl))) pe_int) pa_nil)) pe_int) (pg_sub (pv 0) pe_int set_list))
      (pss_one (ps_asg pe_int (pg_sub (pv 0) pe_int set_list))))
      pss_nil))))
  (pss_cons (ps_if (pt_cmpR op_gt (pe_ix ix_list (pv 0) pe_int (fun _ _ => rfl)) pe_int (nomark _))
    (pss_cons (ps_set (i := 2) sc_law_draw.nd rfl (Or.inl rfl) (pe_op op_mod (pe_callTy call_int1 (by rfl) T.f_int (by decide +kernel) (pa_cons (pe_ix ix_list (pv 0) pe_int (fun _ _ => rfl)) pa_nil)) (pv 1)))
    (pss_cons (ps_asg (pe_op op_fdiv (pe_ix ix_list (pv 0) pe_int (fun _ _ => rfl)) (pv 1)) (pg_sub (pv 0) pe_int set_list))
    (pss_one (ps_ret (pv 2)))))
    pss_nil)
  (pss_cons (ps_asg (pe_op op_add (pe_ix ix_list (pv 0) pe_int (fun _ _ => rfl)) pe_int) (pg_sub (pv 0) pe_int set_list))
  (pss_cons (ps_set (i := 3) sc_law_draw.nd rfl (Or.inl rfl) (pe_op op_mod (pe_callTy call_int1 (by rfl) T.f_int (by decide +kernel) (pa_cons (pe_op op_pow (pe_op op_add (pe_op op_add (pe_ix ix_list (pv 0) pe_int (fun _ _ => rfl)) (pe_op op_mul pe_int (pe_ix ix_list (pv 0) pe_int (fun _ _ => rfl)))) pe_int) pe_int) pa_nil)) pe_int))
  (pss_cons (ps_set (i := 4) sc_law_draw.nd rfl (Or.inl rfl) (pe_op op_mod (pe_callTy call_int1 (by rfl) T.f_int (by decide +kernel) (pa_cons (pe_op op_pow (pe_op op_add (pe_op op_add (pe_op op_mul (pv 3) pe_int) (pe_op op_mul (pe_op op_mul pe_int (pe_ix ix_list (pv 0) pe_int (fun _ _ => rfl))) (pe_ix ix_list (pv 0) pe_int (fun _ _ => rfl)))) pe_int) pe_int) pa_nil)) pe_int))
  (pss_one (ps_ret (pe_op op_mod (pe_callTy call_int1 (by rfl) T.f_int (by decide +kernel) (pa_cons (pv 4) pa_nil)) (pv 1))))))))), ?_⟩
    obtain ⟨ns0, a0, c0, e0, hS0, hL0, hlen0, ha0, hc0, hcn0, he0, he1⟩ := hs
    let Rest : Hp → Prop := fun H1 => ∃ (ns : List Int) (a e : Int), H1 s = some (.lst [.ref l, .int a, .int c0, .int e]) ∧ H1 l = some (.lst (ns.map V.int)) ∧ ns.length ≤ 63 ∧ 0 ≤ a ∧ 0 ≤ e ∧ e < 2147483647 ∧ Kp (onSt s l) H H1
    refine ⟨fun σ H1 => σ = [some (.ref s), some (.int m), none, none, none] ∧ Rest H1, ⟨fun r σ H1 => σ = [some (.ref s), some (.int m), none, none, none] ∧ ∃ (ns : List Int) (a e : Int), r = ns.length ∧ H1 s = some (.lst [.ref l, .int a, .int c0, .int e]) ∧ H1 l = some (.lst (ns.map V.int)) ∧
      ns.length ≤ 63 ∧ 0 ≤ a ∧ 0 ≤ e ∧ e < 2147483647 ∧ Kp (onSt s l) H H1, ⟨_, rfl, ns0, a0, e0, rfl, hS0, hL0, hlen0, ha0, he0, he1, Kp.refl⟩, ?_⟩, ?_⟩
    · rintro r σ H1 ⟨rfl, ns, a, e, rfl, hS, hL, hlen, ha, he0', he1', hk⟩
      have hsl : s ≠ l := st_ne hS hL
      -- while stream[1] == 0 and ..
      walk_at "s"; walk_at "s"; refine ⟨rfl, _, rfl, ?_⟩
      refine ite2 (fun h1 => ?_) (fun h1 => ?_)
      · have hz : a = 0 := by simpa using h1
        subst hz
        walk_at "s"; walk_at "s"
        refine ⟨Nat.zero_le _, fun p hp => ?_⟩
        have hsp : s ≠ p := ne_of_none hS hp
        have hlp : l ≠ p := ne_of_none hL hp
        have hS1 : upd H1 p (.lst []) s = some (.lst [.ref l, .int 0, .int c0, .int e]) := by rw [upd_ne hsp]; exact hS
        have hL1 : upd H1 p (.lst []) l = some (.lst (ns.map V.int)) := by rw [upd_ne hlp]; exact hL
        have hk1 : Kp (onSt s l) H (upd H1 p (.lst [])) := hk.trans (Kp.new hp)
        refine ⟨_, _, Dp.lst (SqL.of hL1) (dp_ints ns), Dp.lst (SqL.of upd_same) .nil, shaped_ints ns, rfl, _, rfl, ?_⟩
        rw [eqv_ints_nil]
        cases ns with
        | nil => exact iteF ⟨rfl, [], 0, e, hS1, hL1, hlen, ha, he0', he1', hk1⟩
        | cons x ns =>
          refine iteT ⟨_, fun σ' H' h => ⟨ns.length, Nat.lt_succ_self _, h⟩, ?_⟩
          -- stream[1] = stream[0].pop(0)
          walk_at "s"; walk_at "s"
          refine ⟨.inl ⟨rfl, _, SqL.of hL1⟩, _, _, _, _, _, rfl, rfl, hL1, by decide, by decide, seqIndex_zero _, rfl, ?_⟩
          have hS2 := (upd_ne (H := upd H1 p (.lst [])) (o := .lst (ns.map V.int)) hsl).trans hS1
          refine ⟨_, rfl, _, _, _, _, rfl, rfl, hS2, rfl, ?_⟩
          -- if stream[1] < 10 ** 18
          walk_at "s"; walk_at "s"
          refine ⟨_, _, rfl, rfl, ⟨by decide, by decide, by decide⟩, _, _, rfl, rfl, _, rfl, ?_⟩
          have hL3 : ∀ o, upd (upd (upd H1 p (.lst [])) l (.lst (ns.map V.int))) s o l = some (.lst (ns.map V.int)) := fun o => by rw [upd_ne hsl.symm, upd_same]
          have hk3 : ∀ o, Kp (onSt s l) H (upd (upd (upd H1 p (.lst [])) l (.lst (ns.map V.int))) s o) := fun o => (hk1.trans (Kp.at (Or.inr rfl))).trans (Kp.at (Or.inl rfl))
          have hlen' : ns.length ≤ 63 := by simp at hlen; omega
          refine ite2 (fun h2 => ?_) (fun h2 => ?_)
          · walk_at "s"; walk_at "s"
            refine ⟨_, _, rfl, rfl, .inl ⟨by omega, by omega⟩, ?_⟩
            walk_at "s"; walk_at "s"; walk_at "s"; walk_at "s"
            refine .inl ⟨_, rfl, _, _, rfl, rfl, (by show (0 : Int) < 2147483647; decide), ?_⟩
            refine ⟨_, rfl, _, _, _, _, rfl, rfl, upd_same, rfl, ?_⟩
            refine ⟨_, rfl, _, _, _, _, rfl, rfl, upd_same, rfl, ?_⟩
            rw [upd_upd, upd_upd]
            exact ⟨rfl, ns, 0, _, rfl, upd_same, hL3 _, hlen', Int.le_refl _, Int.emod_nonneg _ (by decide), Int.emod_lt_of_pos _ (by decide), hk3 _⟩
          · have hx : ¬ x < 10 ^ 18 := by simpa using h2
            exact ⟨rfl, ns, x, e, rfl, upd_same, hL3 _, hlen', by omega, he0', he1', hk3 _⟩
      · refine iteF ⟨rfl, ns, a, e, hS, hL, hlen, ha, he0', he1', hk⟩
    · rintro σ H1 ⟨rfl, ns, a, e, hS, hL, hlen, ha, he0', he1', hk⟩
      have hsl : s ≠ l := st_ne hS hL
      -- if stream[1] > 0
      walk_at "s"; walk_at "s"
      refine ⟨_, _, rfl, rfl, _, rfl, ?_⟩
      refine ite2 (fun h1 => ?_) (fun h1 => ?_)
      · walk_at "s"; walk_at "s"
        refine .inl ⟨_, rfl, _, rfl, _, _, rfl, rfl, hm0, ?_⟩
        walk_at "s"; walk_at "s"; walk_at "s"
        refine ⟨_, _, rfl, rfl, ⟨hm0, hm1⟩, ?_⟩
        refine ⟨_, rfl, _, _, _, _, rfl, rfl, hS, rfl, ?_⟩
        refine ⟨_, rfl, ?_⟩
        refine k _ _ (Int.emod_nonneg _ (by omega)) (Int.emod_lt_of_pos _ hm0) ⟨ns, _, c0, e, upd_same, by rw [upd_ne hsl.symm]; exact hL, hlen, Int.ediv_nonneg ha (by omega), hc0, by omega, he0', he1'⟩ (hk.trans (Kp.at (Or.inl rfl)))
      · -- mixed
        walk_at "s"; walk_at "s"; walk_at "s"
        refine ⟨_, rfl, _, _, _, _, rfl, rfl, hS, rfl, ?_⟩
        walk_at "s"; walk_at "s"; walk_at "s"; walk_at "s"
        refine ⟨_, _, rfl, rfl, .inl ⟨by decide, by decide⟩, ?_⟩
        walk_at "s"; walk_at "s"
        refine ⟨_, _, rfl, rfl, ⟨by decide, by decide, ?_⟩, ?_⟩
        · omega
        refine .inl ⟨_, rfl, _, _, rfl, rfl, (by show (0 : Int) < 2147483629; decide), ?_⟩
        walk_at "s"
        refine ⟨_, _, rfl, rfl, .inl ⟨by omega, by omega⟩, ?_⟩
        walk_at "s"; walk_at "s"
        refine ⟨_, _, rfl, rfl, .inl ⟨by decide, by decide⟩, ?_⟩
        walk_at "s"; walk_at "s"
        refine ⟨_, _, rfl, rfl, .inr ⟨by omega, by omega⟩, ?_⟩
        walk_at "s"; walk_at "s"
        refine ⟨_, _, rfl, rfl, ⟨by decide, by decide, ?_⟩, ?_⟩
        · have h2 : (c0 + 1) * (c0 + 1) ≤ 1000000 * 1000000 := Int.mul_le_mul (by omega) (by omega) (by omega) (by decide)
          have h3 : 0 ≤ (c0 + 1) * (c0 + 1) := Int.mul_nonneg (by omega) (by omega)
          have e1 : 40503 * (c0 + 1) * (c0 + 1) = 40503 * ((c0 + 1) * (c0 + 1)) := Int.mul_assoc ..
          simp only [e1]
          generalize (c0 + 1) * (c0 + 1) = z at h2 h3
          omega
        refine .inl ⟨_, rfl, _, _, rfl, rfl, (by show (0 : Int) < 1000000007; decide), ?_⟩
        walk_at "s"
        refine .inl ⟨_, rfl, _, rfl, _, _, rfl, rfl, hm0, ?_⟩
        refine k _ _ (Int.emod_nonneg _ (by omega)) (Int.emod_lt_of_pos _ hm0) ⟨ns, a, c0 + 1, e, upd_same, by rw [upd_ne hsl.symm]; exact hL, hlen, ha, by omega, by omega, he0', he1'⟩ (hk.trans (Kp.at (Or.inl rfl)))
theorem cal_law_draw (T : Txt w K mg) : Cal P w K mg base 1 "_law_draw" spDraw [] := by
  obtain ⟨fd, F⟩ := T.df_law_draw
  exact ⟨_, fd, ["_law_stream", "_law_many"], [], ok_law_draw T F, T.m_law_draw, F.kp, F.bindsN (fun _ _ _ _ _ _ us hl => match us, hl with | [_, _], _ => rfl), .nil⟩
end
end Ry
set_option pp.maxSteps 600
namespace Ry
open PySem PySem.Spec PyProof.Rows L2 He RyH
open C8 (pss_cut tCut Cal Met Mak pe_c pe_mk pe_mt pe_mt0 pe_gc)
/-! ### keeping -/
theorem StAt.mono {H : Hp} {s l : Addr} {n m : Nat} (h : StAt H s l n) (k : n ≤ m) : StAt H s l m := by
  obtain ⟨ns, a, c, e, h1, h2, h3, h4, h5, h6, h7, h8⟩ := h
  exact ⟨ns, a, c, e, h1, h2, h3, h4, h5, by omega, h7, h8⟩
theorem StAt.s_some {H : Hp} {s l : Addr} {n : Nat} (h : StAt H s l n) : ∃ o, H s = some o := let ⟨_, _, _, _, h1, _⟩ := h; ⟨_, h1⟩
theorem StAt.l_some {H : Hp} {s l : Addr} {n : Nat} (h : StAt H s l n) : ∃ o, H l = some o := let ⟨_, _, _, _, _, h2, _⟩ := h; ⟨_, h2⟩
/-- a place that is free is none of the stream's -/
theorem StAt.off {H : Hp} {s l p : Addr} {n : Nat} (h : StAt H s l n) (hp : H p = none) : ¬ onSt s l p := by
  rintro (e | e)
  · obtain ⟨o, z⟩ := h.s_some
    rw [e, z] at hp
    cases hp
  · obtain ⟨o, z⟩ := h.l_some
    rw [e, z] at hp
    cases hp
theorem StAt.upd {H : Hp} {s l p : Addr} {n : Nat} {o : HO} (h : StAt H s l n) (hp : ¬ onSt s l p) : StAt (upd H p o) s l n := by
  obtain ⟨ns, a, c, e, h1, h2, h3, h4, h5, h6, h7, h8⟩ := h
  exact ⟨ns, a, c, e, by rw [upd_ne (fun z => hp (Or.inl z.symm))]; exact h1, by rw [upd_ne (fun z => hp (Or.inr z.symm))]; exact h2, h3, h4, h5, h6, h7, h8⟩
theorem StAt.new {H : Hp} {s l p : Addr} {n : Nat} {o : HO} (h : StAt H s l n) (hp : H p = none) : StAt (L2.upd H p o) s l n := h.upd (h.off hp)
theorem StAt.kp {M : Addr → Prop} {H H' : Hp} {s l : Addr} {n : Nat} (h : StAt H s l n) (k : Kp M H H') (hs : ¬ M s) (hl : ¬ M l) : StAt H' s l n := by
  obtain ⟨ns, a, c, e, h1, h2, h3, h4, h5, h6, h7, h8⟩ := h
  exact ⟨ns, a, c, e, k _ _ h1 hs, k _ _ h2 hl, h3, h4, h5, h6, h7, h8⟩
/-- what was free before may be written -/
theorem Kp.wr {M : Addr → Prop} {H H' : Hp} {p : Addr} {o : HO} (k : Kp M H H') (hp : H p = none) : Kp M H (upd H' p o) := fun b u e n => by
  rw [upd_ne (ne_of_none e hp)]
  exact k b u e n
theorem Kp.wrM {M : Addr → Prop} {H H' : Hp} {p : Addr} {o : HO} (k : Kp M H H') (hp : M p) : Kp M H (upd H' p o) := fun b u e n => by
  rw [upd_ne (fun z => n (by rw [z]; exact hp))]
  exact k b u e n
theorem Kp.mono {M N : Addr → Prop} {H H' : Hp} (k : Kp M H H') (h : ∀ b, M b → N b) : Kp N H H' := fun b u e n => k b u e fun z => n (h b z)
/-- what is free behind draws was free ahead of them -/
theorem Kp.was {H H' : Hp} {s l p : Addr} {n : Nat} (k : Kp (onSt s l) H H') (h : StAt H' s l n) (hp : H' p = none) : H p = none := by
  cases q : H p with
  | none => rfl
  | some o =>
    have z := k p o q (h.off hp)
    rw [hp] at z
    cases z
theorem upd_at {H : Hp} {p q : Addr} {o u : HO} (h : H q = some u) (hp : H p = none) : upd H p o q = some u := by
  rw [upd_ne (ne_of_none h hp)]
  exact h
/-- the budget of draws -/
abbrev Bud : Nat := 900000
theorem bud {n : Nat} (h : n < Bud) : n < 900000 := h
/-! ### a list that is made of draws, by a comprehension over range(m) -/
theorem lc_draws {s l : Addr} {n b : Nat} {H1 : Hp} {m j : Nat} {te : TE} {vs : List Nat} {σ : L2.St} {D : Addr} {Qd : Hp → Prop} (F : Hp → V → Prop) (hD : H1 D = none) (h0 : StAt H1 s l n) (hm : m < 1000)
    (hF : ∀ y H H', (∀ b, b = D → H b ≠ none) → Kp (onSt s l) H H' → F H y → F H' y) (hFD : ∀ y H o, F H y → F (upd H D o) y)
    (hw : ∀ v, wipe ((wipe σ vs).set j (some v)) vs = wipe σ vs)
    (hs : ∀ (i : Nat) (H : Hp) (Q : VK), i < m → StAt H s l (n + i * b) → Kp (onSt s l) H1 H → (∃ o, H D = some o) →
      (∀ y H4, StAt H4 s l (n + (i + 1) * b) → Kp (onSt s l) H H4 → F H4 y → Q y H4) → te ((wipe σ vs).set j (some (.int (0 + i)))) H Q)
    (hd : ∀ H ys, H D = some (.lst ys) → ys.length = m → (∀ y ∈ ys, F H y) → StAt H s l (n + m * b) → Kp (onSt s l) H1 H → Qd H) :
    ∃ W : Nat → Nat → Hp → Prop, (∃ m', W 0 m' (upd H1 D (.lst []))) ∧ ∀ i m' H, W i m' H →
      ((Itr 0 m).stop i H ∧ Qd H) ∨ ((Itr 0 m).go i H ∧ ∃ Nx : Hp → Prop, (∀ H', Nx H' → ∃ m'', m'' < m' ∧ W (i + 1) m'' H') ∧ ∀ x H', (Itr 0 m).yld i H x H' → gName j x (wipe σ vs) H' fun σ2 H2 => wipe σ2 vs = wipe σ vs ∧ tYes σ2 H2 fun b H3 =>
        if b = true then te σ2 H3 fun y H4 => ∃ acc, H4 D = some (.lst acc) ∧ acc.length < sizeLine ∧ Nx (upd H4 D (.lst (acc ++ [y]))) else Nx H3) := by
  have offD : ¬ onSt s l D := h0.off hD
  refine lc_range (lo := 0) (n := m) (fun i H => i ≤ m ∧ StAt H s l (n + i * b) ∧ Kp (onSt s l) H1 H ∧ ∃ ys, H D = some (.lst ys) ∧ ys.length = i ∧ ∀ y ∈ ys, F H y) ⟨Nat.zero_le _, by rw [Nat.zero_mul]; exact h0.new hD, Kp.refl.wr hD, [], upd_same, rfl, fun y hy => nomatch hy⟩ ?_ ?_
  · rintro i H hi ⟨_, hst, hk, ys, hys, hl, hf⟩
    refine ⟨hw _, ?_⟩
    dsimp only [tYes]
    rw [if_pos rfl]
    refine hs i H _ hi hst hk ⟨_, hys⟩ fun y H4 h4 k4 f4 => ?_
    refine ⟨ys, k4 _ _ hys offD, by rw [hl, sizeLine_eq]; omega, by omega, h4.upd offD, (hk.trans k4).wr hD, ys ++ [y], upd_same, by simp [hl], fun z hz => hFD _ _ _ ?_⟩
    rcases List.mem_append.mp hz with q | q
    · exact hF _ _ _ (fun b e z => by rw [e, hys] at z; cases z) k4 (hf z q)
    · rw [List.mem_singleton.mp q]
      exact f4
  · rintro H ⟨_, hst, hk, ys, hys, hl, hf⟩
    exact hd H ys hys hl hf hst hk
/-! ### one of a list -/
def spPick : Sp := fun vs H Q _ => ∃ (s p l : Addr) (n : Nat) (xs : List V), vs = [.ref s, .ref p] ∧ StAt H s l n ∧ n < Bud ∧ ¬ onSt s l p ∧ H p = some (.lst xs) ∧ 0 < xs.length ∧ xs.length < 1000 ∧
  ∀ x H', x ∈ xs → StAt H' s l (n + 1) → Kp (onSt s l) H H' → Q x H'
theorem atI_mem {xs : List V} {d : Int} (h0 : 0 ≤ d) (h1 : d < xs.length) : ∃ x, atI xs d = some x ∧ x ∈ xs := by
  obtain ⟨k, rfl⟩ := Int.eq_ofNat_of_zero_le h0
  have hk : k < xs.length := by omega
  exact ⟨xs[k], atI_nat (by simp [hk]), List.getElem_mem hk⟩
section
variable {P : Program} {w : World} {K : PySem.W.Frag} {mg : Str → Option Value} {base : Heap}
theorem sc_law_pick : FnScope ["_law_stream", "_law_some"] ["_law_stream", "_law_some"] (defScope s_law_pick) := ⟨rfl, rfl, rfl, by decide +kernel, rfl, by decide +kernel, by decide +kernel⟩
theorem cal_law_pick (T : Txt w K mg) : Cal P w K mg base 2 "_law_pick" (spPick) [] := by
  obtain ⟨fd, F⟩ := T.df_law_pick
  have c_law_draw := cal_law_draw (P := P) (base := base) T
  refine ⟨_, fd, ["_law_stream", "_law_some"], [], F.ok sc_law_pick (fun vs H Q E h => ?_) (fun cdv A outer s H vs Q E hr h => ?_), T.m_law_pick, F.kp, F.bindsN (fun _ _ _ _ _ _ us hl => match us, hl with | [_, _], _ => rfl), .nil⟩
  · obtain ⟨_, _, _, _, _, rfl, _⟩ := h
    rfl
  · obtain ⟨s, p, l, n, xs, rfl, hs, hn, hp, hx, hx0, hx1, k⟩ := h
    -- 0 _law_stream, 1 _law_some
    refine ⟨_, PSs.nox (pss_one (ps_ret (pe_ix ix_list (pv 1) (pe_c c_law_draw hr (by decide) (by rfl) (pa_cons (pv 0) (pa_cons (pe_callB call_len_seq (by rfl) T.f_len PySem.boot_len (pa_cons (pv 1) pa_nil)) pa_nil))) (fun _ _ => rfl)))), ?_⟩
    refine ⟨_, rfl, ?_⟩
    refine ⟨_, rfl, ?_⟩
    refine ⟨_, rfl, ?_⟩
    refine ⟨_, _, rfl, .inl (SqL.of hx), ?_⟩
    refine ⟨s, l, xs.length, n, rfl, hs, by have := bud hn; omega, by omega, by omega, fun d H' h0 h1 hst hk => ?_⟩
    obtain ⟨x, e, hm⟩ := atI_mem h0 h1
    exact ⟨_, _, _, _, rfl, rfl, SqL.of (hk _ _ hx hp), e, k x H' hm hst hk⟩
end
end Ry
namespace Ry
open PySem PySem.Spec PyProof.Rows L2 He RyH
open C8 (pss_cut tCut Cal Met Mak pe_c pe_mk pe_mt pe_mt0 pe_gc)
theorem small_size {n : Nat} (h : n ≤ 1000) : n ≤ sizeLine := by rw [sizeLine_eq]; omega
/-! ### levels, names -/
def levelMenu : List Int := [0, 0, 1, 5, 9, 10, 17, 20, 21, 30, 31, 40, 50, 99, 100]
def nameMenu : List Str := ["", "a", "a.b", "b", "a.b.c", "root", "z", "ab", "c.d", "A", "zzzz", "a.root"]
def spLevel : Sp := fun vs H Q _ => ∃ (s l : Addr) (n : Nat), vs = [.ref s] ∧ StAt H s l n ∧ n < Bud ∧ ∀ (v : Int) H', v ∈ levelMenu → StAt H' s l (n + 1) → Kp (onSt s l) H H' → Q (.int v) H'
def spNames : Sp := fun vs H Q _ => ∃ (s l : Addr) (n m : Nat), vs = [.ref s, .int m] ∧ StAt H s l n ∧ n + m + 2 < Bud ∧ m < 100 ∧
  ∀ (p : Addr) (xs : List Str) H', H p = none → (∀ x ∈ xs, x ∈ nameMenu) → xs.length ≤ m → H' p = some (.lst (xs.map V.str)) → StAt H' s l (n + m + 1) → Kp (onSt s l) H H' → Q (.ref p) H'
theorem strs_of {menu : List Str} : ∀ {ys : List V}, (∀ y ∈ ys, ∃ x, y = .str x ∧ x ∈ menu) → ∃ xs : List Str, ys = xs.map V.str ∧ ∀ x ∈ xs, x ∈ menu
  | [], _ => ⟨[], rfl, fun x h => nomatch h⟩
  | y :: ys, h => by
    obtain ⟨x, rfl, hx⟩ := h y (List.mem_cons_self ..)
    obtain ⟨xs, rfl, h2⟩ := strs_of fun z hz => h z (List.mem_cons_of_mem _ hz)
    refine ⟨x :: xs, rfl, fun z hz => ?_⟩
    rcases List.mem_cons.mp hz with e | e
    · rw [e]; exact hx
    · exact h2 z e
section
variable {P : Program} {w : World} {K : PySem.W.Frag} {mg : Str → Option Value} {base : Heap}
theorem sc_law_level : FnScope ["_law_stream"] ["_law_stream"] (defScope s_law_level) := ⟨rfl, rfl, rfl, by decide +kernel, rfl, by decide +kernel, by decide +kernel⟩
theorem cal_law_level (T : Txt w K mg) : Cal P w K mg base 3 "_law_level" (spLevel) [] := by
  obtain ⟨fd, F⟩ := T.df_law_level
  have c_law_pick := cal_law_pick (P := P) (base := base) T
  refine ⟨_, fd, ["_law_stream"], [], F.ok sc_law_level (fun vs H Q E h => ?_) (fun cdv A outer s H vs Q E hr h => ?_), T.m_law_level, F.kp, F.bindsN (fun _ _ _ _ _ _ us hl => match us, hl with | [_], _ => rfl), .nil⟩
  · obtain ⟨_, _, _, rfl, _⟩ := h
    rfl
  · obtain ⟨s, l, n, rfl, hs, hn, k⟩ := h
    refine ⟨_, PSs.nox (pss_one (ps_ret (pe_c c_law_pick hr (by decide) (by rfl) (pa_cons (pv 0) (pa_cons (pe_lst (pa_cons pe_int (pa_cons pe_int (pa_cons pe_int (pa_cons pe_int (pa_cons pe_int (pa_cons pe_int (pa_cons pe_int (pa_cons pe_int (pa_cons pe_int (pa_cons pe_int (pa_cons pe_int (pa_cons pe_int (pa_cons pe_int (pa_cons pe_int (pa_cons pe_int pa_nil)))))))))))))))) pa_nil))))), ?_⟩
    refine ⟨_, rfl, ?_⟩
    refine ⟨small_size (by decide), fun p hp => ?_⟩
    refine ⟨s, p, l, n, levelMenu.map V.int, rfl, hs.new hp, hn, hs.off hp, upd_same, by decide, by decide, fun x H' hm hst hk => ?_⟩
    obtain ⟨v, hv, rfl⟩ := List.mem_map.mp hm
    exact k v H' hv hst ((Kp.new hp).trans hk)
theorem sc_law_names : FnScope ["_law_stream", "_law_most", "_law_some", "_law_k"] ["_law_stream", "_law_most"] (defScope s_law_names) := ⟨rfl, rfl, rfl, by decide +kernel, rfl, by decide +kernel, by decide +kernel⟩
theorem cal_law_names (T : Txt w K mg) : Cal P w K mg base 3 "_law_names" (spNames) [] := by
  obtain ⟨fd, F⟩ := T.df_law_names
  have c_law_draw := cal_law_draw (P := P) (base := base) T
  have c_law_pick := cal_law_pick (P := P) (base := base) T
  refine ⟨_, fd, ["_law_stream", "_law_most"], [], F.ok sc_law_names (fun vs H Q E h => ?_) (fun cdv A outer s H vs Q E hr h => ?_), T.m_law_names, F.kp, F.bindsN (fun _ _ _ _ _ _ us hl => match us, hl with | [_, _], _ => rfl), .nil⟩
  · obtain ⟨_, _, _, _, rfl, _⟩ := h
    rfl
  · obtain ⟨s, l, n, m, rfl, hs, hn, hm, k⟩ := h
    -- 0 _law_stream, 1 _law_most, 2 _law_some, 3 _law_k
    refine ⟨_, PSs.nox (pss_cons (ps_set (i := 2) sc_law_names.nd rfl (Or.inr rfl) (pe_lst (pa_cons pe_str (pa_cons pe_str (pa_cons pe_str (pa_cons pe_str (pa_cons pe_str (pa_cons pe_str (pa_cons pe_str (pa_cons pe_str (pa_cons pe_str (pa_cons pe_str (pa_cons pe_str (pa_cons pe_str pa_nil))))))))))))))
      (pss_one (ps_ret (pe_lc (own := [("_law_k", 3)]) rfl sc_law_names.nd (pi_range1 (by rfl) T.f_range (pa_cons (pe_c c_law_draw hr (by decide) (by rfl) (pa_cons (pv 0) (pa_cons (pe_op op_add (pv 1) pe_int) pa_nil))) pa_nil)) (blkOk_by (N := ["_law_stream", "_law_most", "_law_some", "_law_k"]) (sc := defScope s_law_names) (own := [("_law_k", 3)]) (by decide +kernel)) (fun _ _ _ _ _ => pg_name (i := 3) sc_law_names.nd rfl (Or.inl rfl)) (fun _ _ _ _ _ => pts_nil) (fun _ _ _ _ _ => (pe_c c_law_pick hr (by decide) (by rfl) (pa_cons (pv 0) (pa_cons (pv 2) pa_nil)))))))), ?_⟩
    refine ⟨small_size (by decide), fun p hp => ?_⟩
    have hn' := bud hn
    refine ⟨_, rfl, ?_⟩
    refine ⟨_, rfl, ?_⟩
    refine ⟨_, _, rfl, rfl, ?_⟩
    refine ⟨s, l, _, n, rfl, hs.new hp, by omega, by omega, by omega, fun d H2 h0 h1 h2 k2 => ?_⟩
    obtain ⟨i, rfl⟩ := Int.eq_ofNat_of_zero_le h0
    have hi : i < m + 1 := by omega
    refine ⟨i, rfl, by omega, by omega, ?_⟩
    intro D hD
    have hp2 : H2 p = some (.lst (nameMenu.map V.str)) := k2 _ _ upd_same (hs.off hp)
    have k2' : Kp (onSt s l) H H2 := (Kp.new hp).trans k2
    refine lc_draws (b := 1) (fun _ y => ∃ x, y = .str x ∧ x ∈ nameMenu) hD h2 (by omega) (fun _ _ _ _ _ h => h) (fun _ _ _ h => h) (fun _ => rfl) ?_ ?_
    · intro j H3 Q3 hj h3 k3 _ kk
      refine ⟨_, rfl, ?_⟩
      refine ⟨_, rfl, ?_⟩
      refine ⟨s, p, l, _, _, rfl, h3, by have := bud hn; show _ < 900000; omega, hs.off hp, k3 _ _ hp2 (hs.off hp), by decide, by decide, fun x H4 hx h4 k4 => ?_⟩
      obtain ⟨z, hz, rfl⟩ := List.mem_map.mp hx
      exact kk _ H4 (h4.mono (by omega)) k4 ⟨z, rfl, hz⟩
    · intro H3 ys hys hl hf h3 k3
      obtain ⟨xs, rfl, hx⟩ := strs_of hf
      exact k D xs H3 (k2'.was h2 hD) hx (by simp at hl; omega) hys (h3.mono (by omega)) (k2'.trans k3)
end
end Ry
namespace Ry
open PySem PySem.Spec PyProof.Rows L2 He RyH
open C8 (pss_cut tCut Cal Met Mak pe_c pe_mk pe_mt pe_mt0 pe_gc)
/-! ### formats -/
inductive FP where
  | txt (x : Str) | mark (x : Str)
def txtMenu : List Str := ["a ", "x", "root ", "INFO", "Level ", "7", ":", "{", "}", "$", "a.b", "WARNING:", " ", "", "-"]
def menu0 : List Str := ["a ", "x", "root ", "INFO", "Level ", "7", ":", "{", "}", "$", "a.b", "WARNING:"]
def markMenu : List Str := ["message", "name", "levelname", "levelno"]
abbrev menuV : List V := [.str "a ", .str "x", .str "root ", .str "INFO", .str "Level ", .str "7", .str ":", .str "{", .str "}", .str "$", .str "a.b", .str "WARNING:"]
theorem menuV_eq : menuV = menu0.map V.str := rfl
def FP.ok : FP → Prop
  | .txt x => x ∈ txtMenu
  | .mark x => x ∈ markMenu
instance (p : FP) : Decidable p.ok := by
  cases p <;> (unfold FP.ok; infer_instance)
theorem was_none {H : Hp} {a b : Addr} {o : HO} (e : upd H a o b = none) : H b = none := by
  by_cases z : b = a
  · rw [z, upd_same] at e
    cases e
  · rwa [upd_ne z] at e
def FpAt (N : Addr → Prop) (H : Hp) (v : V) : FP → Prop
  | .txt x => v = .str x
  | .mark x => ∃ t, v = .ref t ∧ N t ∧ H t = some (.tup [.str x])
/-- a format's parts as they stand in a list -/
def FmtAt (N : Addr → Prop) (H : Hp) : List V → List FP → Prop := Paired (FpAt N H)
def FmtV (N : Addr → Prop) (H : Hp) (v : V) : Option (List FP) → Prop
  | none => v = .non
  | some ps => ∃ a ys, v = .ref a ∧ N a ∧ H a = some (.lst ys) ∧ FmtAt N H ys ps
theorem Paired.impl {α β : Type} {F G : α → β → Prop} : ∀ {xs : List α} {ys : List β}, Paired F xs ys → (∀ x y, F x y → G x y) → Paired G xs ys
  | _, _, .nil, _ => .nil
  | _, _, .cons r t, h => .cons (h _ _ r) (Paired.impl t h)
theorem FpAt.kp {N N' M : Addr → Prop} {H H' : Hp} {v : V} {p : FP} (h : FpAt N H v p) (k : Kp M H H') (hn : ∀ b, N b → N' b ∧ ¬ M b) : FpAt N' H' v p := by
  cases p with
  | txt x => exact h
  | mark x =>
    obtain ⟨t, e, n, q⟩ := h
    exact ⟨t, e, (hn t n).1, k _ _ q (hn t n).2⟩
theorem FmtAt.kp {N N' M : Addr → Prop} {H H' : Hp} {ys : List V} {ps : List FP} (h : FmtAt N H ys ps) (k : Kp M H H') (hn : ∀ b, N b → N' b ∧ ¬ M b) : FmtAt N' H' ys ps := Paired.impl h fun _ _ z => z.kp k hn
theorem FmtV.kp {N N' M : Addr → Prop} {H H' : Hp} {v : V} {o : Option (List FP)} (h : FmtV N H v o) (k : Kp M H H') (hn : ∀ b, N b → N' b ∧ ¬ M b) : FmtV N' H' v o := by
  cases o with
  | none => exact h
  | some ps =>
    obtain ⟨a, ys, e, n, q, f⟩ := h
    exact ⟨a, ys, e, (hn a n).1, k _ _ q (hn a n).2, f.kp k hn⟩
/-- a format of the plans -/
def fmtOk : Option (List FP) → Prop
  | none => True
  | some ps => (∀ p ∈ ps, p.ok) ∧ ps.length ≤ 6 ∧ 0 < ps.length
/-- what was free in H -/
def Fre (H : Hp) : Addr → Prop := fun b => H b = none
def spFormat : Sp := fun vs H Q _ => ∃ (s l : Addr) (n : Nat), vs = [.ref s] ∧ StAt H s l n ∧ n + 30 < Bud ∧
  ∀ v o H', fmtOk o → FmtV (Fre H) H' v o → StAt H' s l (n + 30) → Kp (onSt s l) H H' → Q v H'
theorem mem0 {x : Str} (h : x ∈ menu0) : x ∈ txtMenu := by
  have e : txtMenu = menu0 ++ ([" ", "", "-"] : List Str) := rfl
  rw [e]
  exact List.mem_append_left _ h
theorem fps_of {N : Addr → Prop} {H : Hp} : ∀ {ys : List V}, (∀ y ∈ ys, ∃ p, FpAt N H y p ∧ p.ok) → ∃ ps : List FP, FmtAt N H ys ps ∧ (∀ p ∈ ps, p.ok) ∧ ps.length = ys.length
  | [], _ => ⟨[], .nil, (fun p h => nomatch h), rfl⟩
  | y :: ys, h => by
    obtain ⟨p, h1, h2⟩ := h y (List.mem_cons_self ..)
    obtain ⟨ps, h3, h4, h5⟩ := fps_of fun z hz => h z (List.mem_cons_of_mem _ hz)
    refine ⟨p :: ps, .cons h1 h3, fun q hq => ?_, by rw [List.length_cons, List.length_cons, h5]⟩
    rcases List.mem_cons.mp hq with e | e
    · rw [e]; exact h2
    · exact h4 q e
theorem ssz {n : Nat} (h : Nat.ble n 1000 = true) : n ≤ sizeLine := small_size (Nat.le_of_ble_eq_true h)
/-- what the four marks are -/
theorem mark_of {N : Addr → Prop} {H : Hp} {t1 t2 t3 t4 : Addr} {x : V} (h : x ∈ [V.ref t1, .ref t2, .ref t3, .ref t4]) (n1 : N t1) (n2 : N t2) (n3 : N t3) (n4 : N t4) (e1 : H t1 = some (.tup [.str "message"])) (e2 : H t2 = some (.tup [.str "name"]))
    (e3 : H t3 = some (.tup [.str "levelname"])) (e4 : H t4 = some (.tup [.str "levelno"])) : ∃ p, FpAt N H x p ∧ p.ok := by
  simp only [List.mem_cons, List.not_mem_nil, or_false] at h
  rcases h with rfl | rfl | rfl | rfl
  · exact ⟨.mark "message", ⟨_, rfl, n1, e1⟩, by decide⟩
  · exact ⟨.mark "name", ⟨_, rfl, n2, e2⟩, by decide⟩
  · exact ⟨.mark "levelname", ⟨_, rfl, n3, e3⟩, by decide⟩
  · exact ⟨.mark "levelno", ⟨_, rfl, n4, e4⟩, by decide⟩
theorem txt_of {N : Addr → Prop} {H : Hp} {x : V} (h : x ∈ menuV) : ∃ p, FpAt N H x p ∧ p.ok := by
  rw [menuV_eq] at h
  obtain ⟨z, hz, rfl⟩ := List.mem_map.mp h
  exact ⟨.txt z, rfl, mem0 hz⟩
theorem sep_mem {z : Str} (h : z ∈ ([" ", "", "-"] : List Str)) : FP.ok (.txt z) := by
  have e : txtMenu = menu0 ++ ([" ", "", "-"] : List Str) := rfl
  show z ∈ txtMenu
  rw [e]
  exact List.mem_append_right _ h
section
variable {P : Program} {w : World} {K : PySem.W.Frag} {mg : Str → Option Value} {base : Heap}
theorem sc_law_format : FnScope ["_law_stream", "_law_way", "_law_menu", "_law_marks", "_law_found", "_law_k"] ["_law_stream"] (defScope s_law_format) := ⟨rfl, rfl, rfl, by decide +kernel, rfl, by decide +kernel, by decide +kernel⟩
theorem cal_law_format (T : Txt w K mg) : Cal P w K mg base 3 "_law_format" (spFormat) [] := by
  obtain ⟨fd, F⟩ := T.df_law_format
  have c_law_draw := cal_law_draw (P := P) (base := base) T
  have c_law_pick := cal_law_pick (P := P) (base := base) T
  refine ⟨_, fd, ["_law_stream"], [], F.ok sc_law_format (fun vs H Q E h => ?_) (fun cdv A outer s H vs Q E hr h => ?_), T.m_law_format, F.kp, F.bindsN (fun _ _ _ _ _ _ us hl => match us, hl with | [_], _ => rfl), .nil⟩
  · obtain ⟨_, _, _, rfl, _⟩ := h
    rfl
  · obtain ⟨s, l, n, rfl, hs, hn, k⟩ := h
    have hn' := bud hn
    -- 0 _law_stream, 1 _law_way, 2 _law_menu, 3 _law_marks, 4 _law_found, 5 _law_k
    refine ⟨_, PSs.nox (pss_cons (ps_set (i := 1) sc_law_format.nd rfl (Or.inl rfl) (pe_c c_law_draw hr (by decide) (by rfl) (pa_cons (pv 0) (pa_cons pe_int pa_nil))))
      (pss_cons (ps_if (pt_cmpR op_lt (pv 1) pe_int (nomark _))
        (pss_one (ps_ret pe_non))
        pss_nil)
      (pss_cons (ps_set (i := 2) sc_law_format.nd rfl (Or.inr rfl) (pe_lst (pa_cons pe_str (pa_cons pe_str (pa_cons pe_str (pa_cons pe_str (pa_cons pe_str (pa_cons pe_str (pa_cons pe_str (pa_cons pe_str (pa_cons pe_str (pa_cons pe_str (pa_cons pe_str (pa_cons pe_str pa_nil))))))))))))))
      (pss_cons (ps_set (i := 3) sc_law_format.nd rfl (Or.inr rfl) (pe_lst (pa_cons (pe_tup (pa_cons pe_str pa_nil)) (pa_cons (pe_tup (pa_cons pe_str pa_nil)) (pa_cons (pe_tup (pa_cons pe_str pa_nil)) (pa_cons (pe_tup (pa_cons pe_str pa_nil)) pa_nil))))))
      (pss_cons (ps_if (pt_cmpR op_lt (pv 1) pe_int (nomark _))
        (pss_cons (ps_set (i := 4) sc_law_format.nd rfl (Or.inl rfl) (pe_lst (pa_cons (pe_c c_law_pick hr (by decide) (by rfl) (pa_cons (pv 0) (pa_cons (pv 2) pa_nil))) (pa_cons (pe_c c_law_pick hr (by decide) (by rfl) (pa_cons (pv 0) (pa_cons (pv 3) pa_nil))) (pa_cons (pe_c c_law_pick hr (by decide) (by rfl) (pa_cons (pv 0) (pa_cons (pe_lst (pa_cons pe_str (pa_cons pe_str (pa_cons pe_str pa_nil)))) pa_nil))) (pa_cons (pe_tup (pa_cons pe_str pa_nil)) pa_nil))))))
        (pss_one (ps_ret (pe_slice sl_list (pv 4) po_none (po_some (pe_op op_sub pe_int (pe_callTy call_int1 (by rfl) T.f_int (by decide +kernel) (pa_cons (pe_cmpR op_eq (pe_c c_law_draw hr (by decide) (by rfl) (pa_cons (pv 0) (pa_cons pe_int pa_nil))) pe_int (nomark _)) pa_nil))))))))
        pss_nil)
      (pss_cut (ps_if (PW.pt (pw_and (pt_cmpR op_eq (pv 1) pe_int (nomark _)) (pw_and1 (pt_cmpR op_eq (pe_c c_law_draw hr (by decide) (by rfl) (pa_cons (pv 0) (pa_cons pe_int pa_nil))) pe_int (nomark _)))))
        (pss_one (ps_ret (pe_lst (pa_cons (pe_c c_law_pick hr (by decide) (by rfl) (pa_cons (pv 0) (pa_cons (pe_op op_cat (pv 2) (pe_lst (pa_cons pe_str pa_nil))) pa_nil))) pa_nil))))
        pss_nil)
      (pss_cons (ps_setLc (i := 4) (own := [("_law_k", 5)]) rfl sc_law_format.nd rfl rfl (sw_true rfl rfl rfl (by decide +kernel)) (pi_range1 (by rfl) T.f_range (pa_cons (pe_c c_law_draw hr (by decide) (by rfl) (pa_cons (pv 0) (pa_cons pe_int pa_nil))) pa_nil)) (blkOk_by (N := ["_law_stream", "_law_way", "_law_menu", "_law_marks", "_law_found", "_law_k"]) (sc := defScope s_law_format) (own := [("_law_k", 5)]) (by decide +kernel)) (fun _ _ _ _ _ => pg_name (i := 5) sc_law_format.nd rfl (Or.inl rfl)) (fun _ _ _ _ _ => pts_nil) (fun _ _ _ _ _ => (pe_c c_law_pick hr (by decide) (by rfl) (pa_cons (pv 0) (pa_cons (pe_op op_cat (pe_op op_cat (pv 2) (pv 3)) (pv 3)) pa_nil)))))
      (pss_one (ps_ret (pe_op op_cat (pv 4) (pe_lst (pa_cons (pe_c c_law_pick hr (by decide) (by rfl) (pa_cons (pv 0) (pa_cons (pv 3) pa_nil))) pa_nil)))))))))))), ?_⟩
    refine ⟨_, rfl, ?_⟩
    refine ⟨s, l, 8, n, rfl, hs, by omega, by omega, by omega, fun d H1 h0 h1 hs1 k1 => ?_⟩
    refine ⟨_, rfl, ?_⟩
    refine ⟨_, _, rfl, rfl, _, rfl, ?_⟩
    refine ite2 (fun e1 => ?_) (fun e1 => ?_)
    · exact k _ none H1 trivial rfl (hs1.mono (by omega)) k1
    -- menu, marks
    refine ⟨ssz rfl, fun pm hpm => ?_⟩
    refine ⟨ssz rfl, fun t1 ht1 => ?_⟩
    refine ⟨ssz rfl, fun t2 ht2 => ?_⟩
    refine ⟨ssz rfl, fun t3 ht3 => ?_⟩
    refine ⟨ssz rfl, fun t4 ht4 => ?_⟩
    refine ⟨ssz rfl, fun pk hpk => ?_⟩
    -- the heap behind
    have fr : ∀ q, H1 q = none → Fre H q := fun q hq => k1.was hs1 hq
    have hs2 := ((((((hs1.new (o := .lst menuV) hpm).new (o := .tup [.str "message"]) ht1).new (o := .tup [.str "name"]) ht2).new (o := .tup [.str "levelname"]) ht3).new (o := .tup [.str "levelno"]) ht4).new (o := .lst [.ref t1, .ref t2, .ref t3, .ref t4]) hpk)
    have k2 := k1.trans ((((((Kp.new (M := onSt s l) (o := .lst menuV) hpm).trans (Kp.new (o := .tup [.str "message"]) ht1)).trans (Kp.new (o := .tup [.str "name"]) ht2)).trans (Kp.new (o := .tup [.str "levelname"]) ht3)).trans (Kp.new (o := .tup [.str "levelno"]) ht4)).trans (Kp.new (o := .lst [.ref t1, .ref t2, .ref t3, .ref t4]) hpk))
    have fm := upd_at (o := .lst [.ref t1, .ref t2, .ref t3, .ref t4]) (upd_at (o := .tup [.str "levelno"]) (upd_at (o := .tup [.str "levelname"]) (upd_at (o := .tup [.str "name"]) (upd_at (o := .tup [.str "message"]) (upd_same (H := H1) (a := pm) (o := .lst menuV)) ht1) ht2) ht3) ht4) hpk
    have f1 := upd_at (o := .lst [.ref t1, .ref t2, .ref t3, .ref t4]) (upd_at (o := .tup [.str "levelno"]) (upd_at (o := .tup [.str "levelname"]) (upd_at (o := .tup [.str "name"]) (upd_same (H := upd H1 pm (.lst menuV)) (a := t1) (o := .tup [.str "message"])) ht2) ht3) ht4) hpk
    have f2 := upd_at (o := .lst [.ref t1, .ref t2, .ref t3, .ref t4]) (upd_at (o := .tup [.str "levelno"]) (upd_at (o := .tup [.str "levelname"]) (upd_same (H := upd (upd H1 pm (.lst menuV)) t1 (.tup [.str "message"])) (a := t2) (o := .tup [.str "name"])) ht3) ht4) hpk
    have f3 := upd_at (o := .lst [.ref t1, .ref t2, .ref t3, .ref t4]) (upd_at (o := .tup [.str "levelno"]) (upd_same (H := upd (upd (upd H1 pm (.lst menuV)) t1 (.tup [.str "message"])) t2 (.tup [.str "name"])) (a := t3) (o := .tup [.str "levelname"])) ht4) hpk
    have f4 := upd_at (o := .lst [.ref t1, .ref t2, .ref t3, .ref t4]) (upd_same (H := upd (upd (upd (upd H1 pm (.lst menuV)) t1 (.tup [.str "message"])) t2 (.tup [.str "name"])) t3 (.tup [.str "levelname"])) (a := t4) (o := .tup [.str "levelno"])) hpk
    have fk := upd_same (H := upd (upd (upd (upd (upd H1 pm (.lst menuV)) t1 (.tup [.str "message"])) t2 (.tup [.str "name"])) t3 (.tup [.str "levelname"])) t4 (.tup [.str "levelno"])) (a := pk) (o := .lst [.ref t1, .ref t2, .ref t3, .ref t4])
    have nm := fr pm hpm
    have n1 := fr t1 (was_none ht1)
    have n2 := fr t2 (was_none (was_none ht2))
    have n3 := fr t3 (was_none (was_none (was_none ht3)))
    have n4 := fr t4 (was_none (was_none (was_none (was_none ht4))))
    have nk := fr pk (was_none (was_none (was_none (was_none (was_none hpk)))))
    clear fr hpm ht1 ht2 ht3 ht4 hpk
    refine ⟨_, rfl, ?_⟩
    refine ⟨_, _, rfl, rfl, _, rfl, ?_⟩
    generalize (L2.upd (L2.upd (L2.upd (L2.upd (L2.upd (L2.upd H1 pm (.lst menuV)) t1 (.tup [.str "message"])) t2 (.tup [.str "name"])) t3 (.tup [.str "levelname"])) t4 (.tup [.str "levelno"])) pk (.lst [.ref t1, .ref t2, .ref t3, .ref t4])) = H2 at *
    have om := hs.off nm
    have ok := hs.off nk
    refine ite2 (fun e2 => ?_) (fun e2 => ?_)
    · -- a fixed shape
      refine ⟨_, rfl, _, rfl, ?_⟩
      refine ⟨s, pm, l, _, menuV, rfl, hs2, by simp only [Bud]; omega, om, fm, by decide, by decide, fun x1 H3 hx1 hs3 k3 => ?_⟩
      refine ⟨_, rfl, _, rfl, ?_⟩
      refine ⟨s, pk, l, _, [.ref t1, .ref t2, .ref t3, .ref t4], rfl, hs3, by simp only [Bud]; omega, ok, k3 _ _ fk ok, (Nat.lt_of_sub_eq_succ rfl), (Nat.le_of_ble_eq_true rfl), fun x2 H4 hx2 hs4 k4 => ?_⟩
      refine ⟨_, rfl, ssz rfl, fun q hq => ?_⟩
      refine ⟨s, q, l, _, ([" ", "", "-"] : List Str).map V.str, rfl, hs4.new hq, by simp only [Bud]; omega, hs4.off hq, upd_same, by decide, by decide, fun x3 H5 hx3 hs5 k5 => ?_⟩
      refine ⟨ssz rfl, fun t5 ht5 => ?_⟩
      refine ⟨ssz rfl, fun r hr5 => ?_⟩
      have K5 : Kp (onSt s l) H2 H5 := (k3.trans k4).trans ((Kp.new hq).trans k5)
      have hs6 := (hs5.new (o := .tup [.str "message"]) ht5).new (o := .lst [x1, x2, x3, .ref t5]) hr5
      have K6 := K5.trans ((Kp.new (M := onSt s l) (o := .tup [.str "message"]) ht5).trans (Kp.new (o := .lst [x1, x2, x3, .ref t5]) hr5))
      have n5 : Fre H t5 := (k2.trans K5).was hs5 ht5
      have nr : Fre H r := (k2.trans K5).was hs5 (was_none hr5)
      have f5 := upd_at (o := .lst [x1, x2, x3, .ref t5]) (upd_same (H := H5) (a := t5) (o := .tup [.str "message"])) hr5
      have fr := upd_same (H := upd H5 t5 (.tup [.str "message"])) (a := r) (o := .lst [x1, x2, x3, .ref t5])
      generalize (L2.upd (L2.upd H5 t5 (.tup [.str "message"])) r (.lst [x1, x2, x3, .ref t5])) = H6 at *
      refine ⟨_, rfl, ?_⟩
      refine ⟨_, rfl, ?_⟩
      refine ⟨s, l, 4, _, rfl, hs6, by omega, by omega, by omega, fun d2 H7 _ _ hs7 k7 => ?_⟩
      refine ⟨rfl, .inr ⟨_, rfl, ?_⟩⟩
      refine ⟨_, _, rfl, rfl, ?_⟩
      refine ⟨_, rfl, ?_⟩
      refine ⟨_, _, rfl, SqL.of (k7 _ _ fr (hs.off nr)), fun p hp => ?_⟩
      have np : Fre H p := (k2.trans (K6.trans k7)).was hs7 hp
      have K7 : Kp (onSt s l) H2 (upd H7 p (.lst (cutV [x1, x2, x3, V.ref t5] none (some (4 - if decide (V.int d2 = V.int 0) = true then 1 else 0))))) := (K6.trans k7).trans (Kp.new hp)
      have q5 := upd_at (o := .lst (cutV [x1, x2, x3, V.ref t5] none (some (4 - if decide (V.int d2 = V.int 0) = true then 1 else 0)))) (k7 _ _ f5 (hs.off n5)) hp
      have qp := upd_same (H := H7) (a := p) (o := .lst (cutV [x1, x2, x3, V.ref t5] none (some (4 - if decide (V.int d2 = V.int 0) = true then 1 else 0))))
      have sf := hs7.new (o := .lst (cutV [x1, x2, x3, V.ref t5] none (some (4 - if decide (V.int d2 = V.int 0) = true then 1 else 0)))) hp
      have hc : ∃ ys, cutV [x1, x2, x3, V.ref t5] none (some (4 - if decide (V.int d2 = V.int 0) = true then 1 else 0)) = ys ∧ (ys = [x1, x2, x3, V.ref t5] ∨ ys = [x1, x2, x3]) := by
        refine ⟨_, rfl, ?_⟩
        split
        · exact .inr rfl
        · exact .inl rfl
      obtain ⟨ys, ey, hy⟩ := hc
      rw [ey] at K7 q5 qp sf ⊢
      generalize L2.upd H7 p (.lst ys) = Hf at *
      have g1 : ∃ p, FpAt (Fre H) Hf x1 p ∧ p.ok := txt_of hx1
      have g2 : ∃ p, FpAt (Fre H) Hf x2 p ∧ p.ok := mark_of hx2 n1 n2 n3 n4 (K7 _ _ f1 (hs.off n1)) (K7 _ _ f2 (hs.off n2)) (K7 _ _ f3 (hs.off n3)) (K7 _ _ f4 (hs.off n4))
      have g3 : ∃ p, FpAt (Fre H) Hf x3 p ∧ p.ok := by
        obtain ⟨z, hz, rfl⟩ := List.mem_map.mp hx3
        exact ⟨.txt z, rfl, sep_mem hz⟩
      have g5 : ∃ p, FpAt (Fre H) Hf (.ref t5) p ∧ p.ok := ⟨.mark "message", ⟨_, rfl, n5, q5⟩, by decide⟩
      have hall : ∀ y ∈ ys, ∃ p, FpAt (Fre H) Hf y p ∧ p.ok := by
        intro y hm
        rcases hy with e | e <;> rw [e] at hm
        · simp only [List.mem_cons, List.not_mem_nil, or_false] at hm
          rcases hm with rfl | rfl | rfl | rfl <;> assumption
        · simp only [List.mem_cons, List.not_mem_nil, or_false] at hm
          rcases hm with rfl | rfl | rfl <;> assumption
      have hlen : ys.length ≤ 6 ∧ 0 < ys.length := by rcases hy with e | e <;> rw [e] <;> exact ⟨Nat.le_of_ble_eq_true rfl, Nat.lt_of_sub_eq_succ rfl⟩
      obtain ⟨ps, p1, p2, p3⟩ := fps_of hall
      exact k _ (some ps) Hf ⟨p2, by omega, by omega⟩ ⟨p, ys, rfl, np, qp, p1⟩ (sf.mono (by omega)) (k2.trans K7)
    · -- way 6, 7
      refine ⟨fun σ' H' => σ' = [some (.ref s), some (.int d), some (.ref pm), some (.ref pk), none, none] ∧ StAt H' s l (n + 2) ∧ Kp (onSt s l) H2 H', ?_, ?_⟩
      · refine ⟨_, rfl, ?_⟩
        refine ⟨rfl, _, rfl, ?_⟩
        refine ite2 (fun e3 => ?_) (fun e3 => ?_)
        · refine ⟨_, rfl, ?_⟩
          refine ⟨s, l, 2, _, rfl, hs2, by omega, by omega, by omega, fun d2 H3 _ _ hs3 k3 => ?_⟩
          refine ⟨rfl, _, rfl, ?_⟩
          refine ite2 (fun e4 => ?_) (fun e4 => ?_)
          · refine ⟨_, rfl, _, rfl, ssz rfl, fun q hq => ?_⟩
            refine ⟨_, _, _, _, rfl, rfl, upd_at (k3 _ _ fm om) hq, upd_same, ssz rfl, fun c hc => ?_⟩
            have hc0 := was_none hc
            refine ⟨s, c, l, _, menuV ++ [V.str ""], rfl, (hs3.new hq).new hc, by simp only [Bud]; omega, hs3.off hc0, upd_same, by decide, by decide, fun x H4 hx hs4 k4 => ?_⟩
            refine ⟨ssz rfl, fun r hr4 => ?_⟩
            have K4 : Kp (onSt s l) H2 (L2.upd H4 r (.lst [x])) := ((k3.trans ((Kp.new hq).trans (Kp.new hc))).trans k4).trans (Kp.new hr4)
            have nr : Fre H r := (k2.trans ((k3.trans ((Kp.new hq).trans (Kp.new hc))).trans k4)).was hs4 hr4
            have hx' : ∃ p, FpAt (Fre H) (L2.upd H4 r (.lst [x])) x p ∧ p.ok := by
              rcases List.mem_append.mp hx with z | z
              · exact txt_of z
              · rw [List.mem_singleton.mp z]
                exact ⟨.txt "", rfl, by decide⟩
            obtain ⟨p, p1, p2⟩ := hx'
            exact k _ (some [p]) _ ⟨fun q hq => by rw [List.mem_singleton.mp hq]; exact p2, Nat.le_of_ble_eq_true rfl, Nat.lt_of_sub_eq_succ rfl⟩ ⟨r, [x], rfl, nr, upd_same, .cons p1 .nil⟩ ((hs4.new hr4).mono (by omega)) (k2.trans K4)
          · exact ⟨rfl, hs3.mono (by omega), k3⟩
        · refine iteF ?_
          exact ⟨rfl, hs2.mono (by omega), Kp.refl⟩
      · rintro σ' H3 ⟨rfl, hs3, k3⟩
        refine ⟨_, rfl, ?_⟩
        refine ⟨s, l, 6, _, rfl, hs3, by omega, by omega, by omega, fun m H4 hm0 hm1 hs4 k4 => ?_⟩
        obtain ⟨i, rfl⟩ := Int.eq_ofNat_of_zero_le hm0
        refine ⟨i, rfl, by omega, by omega, ?_⟩
        intro D hD
        have K4 := k3.trans k4
        have nD : Fre H D := (k2.trans K4).was hs4 hD
        have a1 := K4 _ _ f1 (hs.off n1)
        have a2 := K4 _ _ f2 (hs.off n2)
        have a3 := K4 _ _ f3 (hs.off n3)
        have a4 := K4 _ _ f4 (hs.off n4)
        have am := K4 _ _ fm om
        have ak := K4 _ _ fk ok
        refine lc_draws (b := 1) (fun H' y => ∃ p, FpAt (fun b => Fre H b ∧ b ≠ D) H' y p ∧ p.ok) hD hs4 (by omega) ?_ ?_ (fun _ => rfl) ?_ ?_
        · rintro y Ha Hb _ kab ⟨p, z1, z2⟩
          exact ⟨p, z1.kp kab fun b hb => ⟨hb, hs.off hb.1⟩, z2⟩
        · rintro y Ha o ⟨p, z1, z2⟩
          exact ⟨p, z1.kp (M := fun b => b = D) (Kp.at rfl) fun b hb => ⟨hb, hb.2⟩, z2⟩
        · intro j Ha Qa hj ha ka _ kk
          refine ⟨_, rfl, _, rfl, _, rfl, ?_⟩
          refine ⟨_, _, _, _, rfl, rfl, ka _ _ am om, ka _ _ ak ok, ssz rfl, fun q hq => ?_⟩
          refine ⟨_, rfl, ?_⟩
          refine ⟨_, _, _, _, rfl, rfl, upd_same, upd_at (ka _ _ ak ok) hq, ssz rfl, fun c hc => ?_⟩
          have hc0 := was_none hc
          refine ⟨s, c, l, _, (menuV ++ [.ref t1, .ref t2, .ref t3, .ref t4]) ++ [.ref t1, .ref t2, .ref t3, .ref t4], rfl, (ha.new hq).new hc, by simp only [Bud]; omega, ha.off hc0, upd_same, (Nat.lt_of_sub_eq_succ rfl), (Nat.le_of_ble_eq_true rfl), fun x Hb hx hb kb => ?_⟩
          have kab : Kp (onSt s l) Ha Hb := ((Kp.new hq).trans (Kp.new hc)).trans kb
          have kb4 := ka.trans kab
          refine kk x Hb (hb.mono (by omega)) kab ?_
          have am : ∀ {t}, H4 t ≠ none → t ≠ D := fun hne e => hne (by rw [e]; exact hD)
          have mk : ∀ (z : x ∈ [V.ref t1, .ref t2, .ref t3, .ref t4]), ∃ p, FpAt (fun b => Fre H b ∧ b ≠ D) Hb x p ∧ p.ok := fun z =>
            mark_of z ⟨n1, am (by rw [a1]; simp)⟩ ⟨n2, am (by rw [a2]; simp)⟩ ⟨n3, am (by rw [a3]; simp)⟩ ⟨n4, am (by rw [a4]; simp)⟩ (kb4 _ _ a1 (hs.off n1)) (kb4 _ _ a2 (hs.off n2)) (kb4 _ _ a3 (hs.off n3)) (kb4 _ _ a4 (hs.off n4))
          rcases List.mem_append.mp hx with z | z
          · rcases List.mem_append.mp z with z | z
            · exact txt_of z
            · exact mk z
          · exact mk z
        · intro H5 ys hys hl hf hs5 k5
          refine ⟨_, rfl, ?_⟩
          refine ⟨_, rfl, _, rfl, ?_⟩
          refine ⟨s, pk, l, _, [.ref t1, .ref t2, .ref t3, .ref t4], rfl, hs5, by simp only [Bud]; omega, ok, k5 _ _ ak ok, (Nat.lt_of_sub_eq_succ rfl), (Nat.le_of_ble_eq_true rfl), fun x H6 hx hs6 k6 => ?_⟩
          refine ⟨ssz rfl, fun q hq => ?_⟩
          refine ⟨_, _, _, _, rfl, rfl, upd_at (k6 _ _ hys (hs.off nD)) hq, upd_same, small_size (by simp; omega), fun c hc => ?_⟩
          have K6 : Kp (onSt s l) H4 H6 := k5.trans k6
          have K7 : Kp (onSt s l) H6 (L2.upd (L2.upd H6 q (.lst [x])) c (.lst (ys ++ [x]))) := (Kp.new hq).trans (Kp.new hc)
          have nc : Fre H c := ((k2.trans K4).trans K6).was hs6 (was_none hc)
          have K47 := K6.trans K7
          have g : ∀ y ∈ ys ++ [x], ∃ p, FpAt (Fre H) (L2.upd (L2.upd H6 q (.lst [x])) c (.lst (ys ++ [x]))) y p ∧ p.ok := by
            intro y hy
            rcases List.mem_append.mp hy with z | z
            · obtain ⟨p, p1, p2⟩ := hf y z
              exact ⟨p, p1.kp (k6.trans K7) fun b hb => ⟨hb.1, hs.off hb.1⟩, p2⟩
            · rw [List.mem_singleton.mp z]
              exact mark_of hx n1 n2 n3 n4 (K47 _ _ a1 (hs.off n1)) (K47 _ _ a2 (hs.off n2)) (K47 _ _ a3 (hs.off n3)) (K47 _ _ a4 (hs.off n4))
          obtain ⟨ps, p1, p2, p3⟩ := fps_of g
          rw [List.length_append, List.length_singleton] at p3
          exact k _ (some ps) _ ⟨p2, by omega, by omega⟩ ⟨c, _, rfl, nc, upd_same, p1⟩ (((hs6.new hq).new hc).mono (by omega)) ((k2.trans K4).trans K47)
end
end Ry
namespace Ry
open PySem PySem.Spec PyProof.Rows L2 He RyH
open C8 (pss_cut tCut Cal Met Mak pe_c pe_mk pe_mt pe_mt0 pe_gc)
/-! ### does a format name a field -/
theorem Same.wr {H H' : Hp} {p : Addr} {o : HO} (k : Same H H') (hp : H p = none) : Same H (upd H' p o) := fun b u e => by
  rw [upd_ne (ne_of_none e hp)]
  exact k b u e
theorem Same.rfl' {H : Hp} : Same H H := fun _ _ h => h
theorem Same.tr {H H1 H2 : Hp} (a : Same H H1) (b : Same H1 H2) : Same H H2 := fun c o h => b c o (a c o h)
theorem Same.nw {H : Hp} {p : Addr} {o : HO} (h : H p = none) : Same H (upd H p o) := fun b u e => by rw [upd_ne (ne_of_none e h)]; exact e
theorem Same.was {H H' : Hp} {p : Addr} (k : Same H H') (hp : H' p = none) : H p = none := by
  cases q : H p with
  | none => rfl
  | some o =>
    rw [k p o q] at hp
    cases hp
theorem FmtAt.same {N : Addr → Prop} {H H' : Hp} {ys : List V} {ps : List FP} (h : FmtAt N H ys ps) (k : Same H H') : FmtAt N H' ys ps := h.kp (M := fun _ => False) (Kp.same k) fun b hb => ⟨hb, fun z => z⟩
def FP.isMark : FP → Bool
  | .txt _ => false
  | .mark _ => true
theorem Paired.nth {α β : Type} {F : α → β → Prop} : ∀ {xs : List α} {ys : List β} {i : Nat} {x : α}, Paired F xs ys → xs[i]? = some x → ∃ y, ys[i]? = some y ∧ F x y
  | _, _, 0, _, .cons r _, e => ⟨_, rfl, by cases e; exact r⟩
  | _, _, i + 1, _, .cons _ t, e => Paired.nth (i := i) t e
theorem take_nth {α : Type} {xs : List α} {i : Nat} {x : α} (h : xs[i]? = some x) : xs.take (i + 1) = xs.take i ++ [x] := by
  rw [List.take_add_one, h]
  rfl
def spHasField : Sp := fun vs H Q _ => ∃ (p : Addr) (N : Addr → Prop) (ys : List V) (ps : List FP), vs = [.ref p] ∧ H p = some (.lst ys) ∧ FmtAt N H ys ps ∧ ps.length ≤ 100 ∧ ∀ H', Same H H' → Q (.bl (ps.any FP.isMark)) H'
theorem FpAt.isTup {N : Addr → Prop} {K : PySem.W.Frag} {H : Hp} {x : V} {p : FP} (h : FpAt N H x p) : ∃ t, TyX K H x t ∧ PySem.W.kitOne K t (.type "tuple") = some p.isMark := by
  cases p with
  | txt z =>
    cases h
    exact ⟨_, .base (.str z), kit_ty (show kitB "str" "tuple" = some false by decide +kernel)⟩
  | mark z =>
    obtain ⟨t, rfl, _, e⟩ := h
    exact ⟨_, .base (.tup e), kit_ty (show kitB "tuple" "tuple" = some true by decide +kernel)⟩
section
variable {P : Program} {w : World} {K : PySem.W.Frag} {mg : Str → Option Value} {base : Heap}
theorem sc_law_has_field : FnScope ["_law_parts", "_law_part"] ["_law_parts"] (defScope s_law_has_field) := ⟨rfl, rfl, rfl, by decide +kernel, rfl, by decide +kernel, by decide +kernel⟩
theorem cal_law_has_field (T : Txt w K mg) : Cal P w K mg base 1 "_law_has_field" (spHasField) [] := by
  obtain ⟨fd, F⟩ := T.df_law_has_field
  refine ⟨_, fd, ["_law_parts"], [], F.ok sc_law_has_field (fun vs H Q E h => ?_) (fun cdv A outer s H vs Q E hr h => ?_), T.m_law_has_field, F.kp, F.bindsN (fun _ _ _ _ _ _ us hl => match us, hl with | [_], _ => rfl), .nil⟩
  · obtain ⟨_, _, _, _, rfl, _⟩ := h
    rfl
  · obtain ⟨p, N, ys, ps, rfl, hp, hf, hl, k⟩ := h
    -- 0 _law_parts, 1 _law_part
    refine ⟨_, PSs.nox (pss_one (ps_ret (pe_callB (id := "any") (cr_any rfl) (by rfl) T.f_any (by decide +kernel) (pa_cons (pe_lc (own := [("_law_part", 1)]) rfl sc_law_has_field.nd (pi_list (pv 0)) (blkOk_by (N := ["_law_parts", "_law_part"]) (sc := defScope s_law_has_field) (own := [("_law_part", 1)]) (by decide +kernel)) (fun _ _ _ _ _ => pg_name (i := 1) sc_law_has_field.nd rfl (Or.inl rfl)) (fun _ _ _ _ _ => pts_nil) (fun _ _ _ _ _ => (pe_callB (id := "isinstance") (r := rIsi K) call_isi (by rfl) T.f_isinstance (by decide +kernel) (pa_cons (pv 1) (pa_cons (pe_bltn (v := .ty "tuple") (by rfl) T.f_tuple (by decide +kernel) rfl) pa_nil))))) pa_nil)))), ?_⟩
    refine ⟨_, rfl, ?_⟩
    refine ⟨p, rfl, ⟨ys, SqL.of hp⟩, ?_⟩
    intro D hD
    have hlen : ys.length = ps.length := Paired.length hf
    refine lc_list (xs := ys) (fun i H' => Same H H' ∧ H' D = some (.lst (((ps.take i).map FP.isMark).map V.bl))) ⟨Same.nw hD, upd_same⟩ (fun i H' _ h => SqL.of (h.1 _ _ hp)) ?_ ?_
    · rintro i x H' hx ⟨k1, h1⟩
      obtain ⟨q, hq, fq⟩ := Paired.nth hf hx
      refine ⟨rfl, ?_⟩
      refine ⟨_, rfl, ?_⟩
      obtain ⟨t, ty, kt⟩ := FpAt.isTup (K := K) (fq.kp (M := fun _ => False) (Kp.same k1) fun b hb => ⟨hb, fun z => z⟩)
      refine ⟨_, _, t, _, _, rfl, .ty _, ty, kt, ?_⟩
      refine ⟨_, h1, small_size (by simp; omega), Same.wr k1 hD, ?_⟩
      rw [upd_same, take_nth hq, List.map_append, List.map_append]
      rfl
    · rintro H' ⟨k1, h1⟩
      refine ⟨D, _, rfl, SqL.of h1, ?_⟩
      have e : (((ps.take ys.length).map FP.isMark).any id) = ps.any FP.isMark := by
        rw [hlen, List.take_length, List.any_map]
        rfl
      rw [e]
      exact k H' k1
end
end Ry
namespace Ry
open PySem PySem.Spec PyProof.Rows L2 He RyH RyT
open C8 (pss_cut tCut Cal Met Mak pe_c pe_mk pe_mt pe_mt0 pe_gc)
/-! ### a format's text -/
def styleOf (b : Bool) : Str := if b then "{" else "$"
def partText (b : Bool) : FP → Str
  | .mark x => if b then ("{" : Str) ++ x ++ "}" else ("${" : Str) ++ x ++ "}"
  | .txt x => if b then Txt.replace (Txt.replace x "{" "{{") "}" "}}" else Txt.replace x "$" "$$"
def fmtText (b : Bool) (ps : List FP) : Str := ps.foldl (fun acc p => acc ++ partText b p) ""
theorem fmtText_take {b : Bool} {ps : List FP} {i : Nat} {p : FP} (h : ps[i]? = some p) : fmtText b (ps.take (i + 1)) = fmtText b (ps.take i) ++ partText b p := by
  unfold fmtText
  rw [take_nth h, List.foldl_append]
  rfl
theorem len_app (x y : Str) : (x ++ y).length = x.length + y.length := by
  show (x.cps ++ y.cps).size = _
  rw [Array.size_append]
  rfl
theorem txt_len : ∀ x ∈ txtMenu, x.length ≤ 10 := by decide +kernel
theorem txt_lenB : ∀ x ∈ txtMenu, (Txt.replace x "{" "{{").length ≤ 20 ∧ (Txt.replace (Txt.replace x "{" "{{") "}" "}}").length ≤ 20 ∧ (Txt.replace x "$" "$$").length ≤ 20 := by decide +kernel
theorem mark_len : ∀ x ∈ markMenu, x.length ≤ 10 := by decide +kernel
theorem part_len {b : Bool} {p : FP} (h : p.ok) : (partText b p).length ≤ 20 := by
  cases p with
  | txt x =>
    have z := txt_lenB x h
    cases b
    · exact z.2.2
    · exact z.2.1
  | mark x =>
    have z := mark_len x h
    have z1 : ("{" : Str).length = 1 := rfl
    have z2 : ("}" : Str).length = 1 := rfl
    have z3 : ("${" : Str).length = 2 := rfl
    cases b
    · show (("${" : Str) ++ x ++ "}").length ≤ 20
      rw [len_app, len_app]
      omega
    · show (("{" : Str) ++ x ++ "}").length ≤ 20
      rw [len_app, len_app]
      omega
theorem fmt_len {b : Bool} : ∀ {ps : List FP} {acc : Str} {n : Nat}, (∀ p ∈ ps, p.ok) → acc.length ≤ n → (ps.foldl (fun acc p => acc ++ partText b p) acc).length ≤ n + 20 * ps.length
  | [], acc, n, _, h => by simpa using h
  | p :: ps, acc, n, ho, h => by
    rw [List.foldl_cons]
    have h1 := part_len (b := b) (ho p (List.mem_cons_self ..))
    have h2 := fmt_len (b := b) (ps := ps) (acc := acc ++ partText b p) (n := n + 20) (fun q hq => ho q (List.mem_cons_of_mem _ hq)) (by rw [len_app]; omega)
    rw [List.length_cons]
    omega
theorem fmt_len' {b : Bool} {ps : List FP} (ho : ∀ p ∈ ps, p.ok) : (fmtText b ps).length ≤ 20 * ps.length := by
  have z := fmt_len (b := b) (acc := "") (n := 0) ho (Nat.le_refl _)
  unfold fmtText
  omega
def spFormatText : Sp := fun vs H Q _ => ∃ (p : Addr) (N : Addr → Prop) (ys : List V) (ps : List FP) (b : Bool), vs = [.ref p, .str (styleOf b)] ∧ H p = some (.lst ys) ∧ FmtAt N H ys ps ∧ (∀ q ∈ ps, q.ok) ∧ ps.length ≤ 100 ∧ Q (.str (fmtText b ps)) H
theorem style_eq (b : Bool) : decide (V.str (styleOf b) = V.str "{") = b := by cases b <;> decide
section
variable {P : Program} {w : World} {K : PySem.W.Frag} {mg : Str → Option Value} {base : Heap}
theorem sc_law_format_text : FnScope ["_law_parts", "_law_style", "_law_found", "_law_part"] ["_law_parts", "_law_style"] (defScope s_law_format_text) := ⟨rfl, rfl, rfl, by decide +kernel, rfl, by decide +kernel, by decide +kernel⟩
theorem cal_law_format_text (T : Txt w K mg) : Cal P w K mg base 1 "_law_format_text" (spFormatText) [] := by
  obtain ⟨fd, F⟩ := T.df_law_format_text
  refine ⟨_, fd, ["_law_parts", "_law_style"], [], F.ok sc_law_format_text (fun vs H Q E h => ?_) (fun cdv A outer s H vs Q E hr h => ?_), T.m_law_format_text, F.kp, F.bindsN (fun _ _ _ _ _ _ us hl => match us, hl with | [_, _], _ => rfl), .nil⟩
  · obtain ⟨_, _, _, _, _, rfl, _⟩ := h
    rfl
  · obtain ⟨p, N, ys, ps, b, rfl, hp, hf, ho, hl, k⟩ := h
    -- 0 _law_parts, 1 _law_style, 2 _law_found, 3 _law_part
    refine ⟨_, PSs.nox (pss_str (i := 2) sc_law_format_text.nd rfl (Or.inl rfl)
      (psst_cons (pst_forT PassesOwn.never rfl (pi_list (pv 0)) (pg_name (i := 3) sc_law_format_text.nd rfl (Or.inl rfl))
        (psst_one (pst_if (pt_val (pe_callB (id := "isinstance") call_isi (by rfl) T.f_isinstance (by decide +kernel) (pa_cons (pv 3) (pa_cons (pe_bltn (v := .ty "tuple") (by rfl) T.f_tuple (by decide +kernel) rfl) pa_nil))))
          (PSsT.of (pss_one (ps_set (i := 2) sc_law_format_text.nd rfl (Or.inl rfl) (pe_op op_add_str (pv 2) (pe_ifExp (pt_cmpR op_eq (pv 1) pe_str (nomark _)) (pe_op op_add_str (pe_op op_add_str pe_str (pe_ix ix_tup (pv 3) pe_int (fun _ _ => rfl))) pe_str) (pe_op op_add_str (pe_op op_add_str pe_str (pe_ix ix_tup (pv 3) pe_int (fun _ _ => rfl))) pe_str))))))
          (psst_one (pst_if (pt_cmpR op_eq (pv 1) pe_str (nomark _))
            (psst_one (pst_set (i := 2) sc_law_format_text.nd rfl (Or.inl rfl) (pet_op op_add_str (pv 2) (pet_repl (by decide) (pet_repl (by decide) (pet_of (pv 3)))))))
            (psst_one (pst_set (i := 2) sc_law_format_text.nd rfl (Or.inl rfl) (pet_op op_add_str (pv 2) (pet_repl (by decide) (pet_of (pv 3)))))))))))
      (PSsT.of (pss_one (ps_ret (pv 2)))))), ?_⟩
    refine ⟨_, rfl, p, rfl, ⟨ys, SqL.of hp⟩, ?_⟩
    have hlen : ys.length = ps.length := Paired.length hf
    refine for_list (xs := ys) (fun i σ' H' => H' = H ∧ ∃ o, σ' = [some (.ref p), some (.str (styleOf b)), some (.str (fmtText b (ps.take i))), o]) ⟨rfl, _, rfl⟩ (fun i σ' H' _ h => by rw [h.1]; exact SqL.of hp) ?_ ?_
    · rintro i x σ' H' hx ⟨rfl, o, rfl⟩
      obtain ⟨q, hq, fq⟩ := Paired.nth hf hx
      have hok : q.ok := ho q (List.mem_of_getElem? hq)
      have hi : i < ps.length := by
        rcases Nat.lt_or_ge i ps.length with z | z
        · exact z
        · rw [List.getElem?_eq_none z] at hq
          cases hq
      have hacc : (fmtText b (ps.take i)).length ≤ 2000 := by
        have z := fmt_len' (b := b) (ps := ps.take i) fun r hr => ho r (List.mem_of_mem_take hr)
        rw [List.length_take] at z
        omega
      obtain ⟨t, ty, kt⟩ := FpAt.isTup (K := K) fq
      refine ⟨_, rfl, ?_⟩
      refine ⟨_, _, t, _, _, rfl, .ty _, ty, kt, ?_⟩
      refine ⟨_, rfl, ?_⟩
      have fin : ∀ z : Str, z = partText b q → (fmtText b (ps.take i)).length + z.length ≤ sizeLine ∧ fmtText b (ps.take i) ++ z = fmtText b (ps.take (i + 1)) := fun z e => by
        rw [e, fmtText_take hq]
        have := part_len (b := b) hok
        exact ⟨by rw [sizeLine_eq]; omega, rfl⟩
      cases q with
      | mark z =>
        obtain ⟨a, rfl, _, ea⟩ := fq
        have hz := mark_len z hok
        have z1 : ("{" : Str).length = 1 := rfl
        have z2 : ("}" : Str).length = 1 := rfl
        have z3 : ("${" : Str).length = 2 := rfl
        refine iteT ?_
        refine ⟨_, rfl, ?_⟩
        refine ⟨_, rfl, ?_⟩
        refine ⟨rfl, _, rfl, ?_⟩
        rw [style_eq]
        cases b with
        | true =>
          refine iteT ?_
          refine ⟨_, rfl, ?_⟩
          refine ⟨_, _, _, _, rfl, rfl, SqT.of ea, rfl, ?_⟩
          refine ⟨_, _, rfl, rfl, by rw [sizeLine_eq]; omega, ?_⟩
          refine ⟨_, _, rfl, rfl, by rw [len_app, sizeLine_eq]; omega, ?_⟩
          obtain ⟨l1, l2⟩ := fin _ rfl
          refine ⟨_, _, rfl, rfl, l1, ?_⟩
          exact ⟨rfl, _, by rw [← l2]; rfl⟩
        | false =>
          refine iteF ?_
          refine ⟨_, rfl, ?_⟩
          refine ⟨_, _, _, _, rfl, rfl, SqT.of ea, rfl, ?_⟩
          refine ⟨_, _, rfl, rfl, by rw [sizeLine_eq]; omega, ?_⟩
          refine ⟨_, _, rfl, rfl, by rw [len_app, sizeLine_eq]; omega, ?_⟩
          obtain ⟨l1, l2⟩ := fin _ rfl
          refine ⟨_, _, rfl, rfl, l1, ?_⟩
          exact ⟨rfl, _, by rw [← l2]; rfl⟩
      | txt z =>
        cases fq
        have hz := txt_len z hok
        have hB := txt_lenB z hok
        refine iteF ?_
        refine ⟨_, rfl, ?_⟩
        refine ⟨rfl, _, rfl, ?_⟩
        rw [style_eq]
        have y1 : ("{{" : Str).length = 2 := rfl
        have y2 : ("}}" : Str).length = 2 := rfl
        have y3 : ("$$" : Str).length = 2 := rfl
        cases b with
        | true =>
          refine iteT ?_
          refine ⟨_, rfl, ?_⟩
          refine ⟨_, rfl, ?_⟩
          refine ⟨_, rfl, by rw [y1]; omega, ?_⟩
          refine ⟨_, rfl, by rw [y2]; omega, ?_⟩
          obtain ⟨l1, l2⟩ := fin _ rfl
          refine ⟨_, _, rfl, rfl, l1, ?_⟩
          exact ⟨rfl, _, by rw [← l2]; rfl⟩
        | false =>
          refine iteF ?_
          refine ⟨_, rfl, ?_⟩
          refine ⟨_, rfl, ?_⟩
          refine ⟨_, rfl, by rw [y3]; omega, ?_⟩
          obtain ⟨l1, l2⟩ := fin _ rfl
          refine ⟨_, _, rfl, rfl, l1, ?_⟩
          exact ⟨rfl, _, by rw [← l2]; rfl⟩
    · rintro σ' H' ⟨rfl, o, rfl⟩
      refine ⟨_, rfl, ?_⟩
      rw [hlen, List.take_length]
      exact k
end
end Ry
namespace Ry
open PySem PySem.Spec PyProof.Rows L2 He RyH
open C8 (pss_cut tCut Cal Met Mak pe_c pe_mk pe_mt pe_mt0 pe_gc)
theorem lsz {n : Nat} (h : Nat.ble (n + 1) 1000 = true) : n < sizeLine := by
  have := Nat.le_of_ble_eq_true h
  rw [sizeLine_eq]
  omega
theorem Fre.ne {H : Hp} {a b : Addr} {o : HO} (h : Fre H b) (e : H a = some o) : b ≠ a := fun z => by
  have h' : H b = none := h
  rw [z, e] at h'
  cases h'
/-! ### the plan of a handler -/
structure HP where
  stream : Str
  level : Int
  filters : List Str
  null : Bool
  fmt : Option (List FP)
  style : Bool
  term : Str
  called : Option Str
abbrev kS (x : Str) : Key := Sum.inr x
def calV : Option Str → V
  | none => .non
  | some x => .str x
def streamMenu : List Str := ["out", "out", "err", "stderr"]
def endMenu : List Str := ["", ";", "\n\n", "\n"]
structure HPok (h : HP) : Prop where
  stream : h.stream ∈ streamMenu
  level : h.level ∈ levelMenu
  filters : ∀ x ∈ h.filters, x ∈ nameMenu
  few : h.filters.length ≤ 2
  fmt : fmtOk h.fmt
  term : h.term ∈ endMenu
def hpK (h : HP) (fl : Addr) (fv : V) : List (Key × V) := [(kS "stream", .str h.stream), (kS "level", .int h.level), (kS "filters", .ref fl), (kS "null", .bl h.null), (kS "format", fv), (kS "style", .str (styleOf h.style)), (kS "end", .str h.term), (kS "called", calV h.called)]
def HPlanAt (N : Addr → Prop) (H : Hp) (p : Addr) (h : HP) : Prop := ∃ fl fv, N p ∧ H p = some (.dK (hpK h fl fv)) ∧ N fl ∧ H fl = some (.lst (h.filters.map V.str)) ∧ FmtV N H fv h.fmt
theorem HPlanAt.kp {N N' M : Addr → Prop} {H H' : Hp} {p : Addr} {h : HP} (x : HPlanAt N H p h) (k : Kp M H H') (hn : ∀ b, N b → N' b ∧ ¬ M b) : HPlanAt N' H' p h := by
  obtain ⟨fl, fv, n1, e1, n2, e2, f⟩ := x
  exact ⟨fl, fv, (hn p n1).1, k _ _ e1 (hn p n1).2, (hn fl n2).1, k _ _ e2 (hn fl n2).2, f.kp k hn⟩
def spHandlerPlan : Sp := fun vs H Q _ => ∃ (s l : Addr) (n : Nat), vs = [.ref s] ∧ StAt H s l n ∧ n + 60 < Bud ∧
  ∀ p h H', HPok h → h.called = none → HPlanAt (Fre H) H' p h → StAt H' s l (n + 60) → Kp (onSt s l) H H' → Q (.ref p) H'
theorem mg1 (a b : V) : mergeK [] [(kS "stream", a), (kS "level", b)] = [(kS "stream", a), (kS "level", b)] := by kernel_rfl
theorem mg2 (a b c d : V) : mergeK [(kS "stream", a), (kS "level", b)] (mergeK [] [(kS "filters", c), (kS "null", d)]) = [(kS "stream", a), (kS "level", b), (kS "filters", c), (kS "null", d)] := by kernel_rfl
theorem mg3 (a b c d e f g : V) : mergeK [(kS "stream", a), (kS "level", b), (kS "filters", c), (kS "null", d)] (mergeK [] [(kS "format", e), (kS "style", f), (kS "end", g)]) = [(kS "stream", a), (kS "level", b), (kS "filters", c), (kS "null", d), (kS "format", e), (kS "style", f), (kS "end", g)] := by kernel_rfl
theorem mg4 (a b c d e f g h : V) : putK [(kS "stream", a), (kS "level", b), (kS "filters", c), (kS "null", d), (kS "format", e), (kS "style", f), (kS "end", g)] (kS "called") h = [(kS "stream", a), (kS "level", b), (kS "filters", c), (kS "null", d), (kS "format", e), (kS "style", f), (kS "end", g), (kS "called", h)] := by kernel_rfl
theorem mg5 (a b c d e f g h z : V) : putK [(kS "stream", a), (kS "level", b), (kS "filters", c), (kS "null", d), (kS "format", e), (kS "style", f), (kS "end", g), (kS "called", h)] (kS "end") z = [(kS "stream", a), (kS "level", b), (kS "filters", c), (kS "null", d), (kS "format", e), (kS "style", f), (kS "end", z), (kS "called", h)] := by kernel_rfl
theorem mg6 (a b c d e f g h z : V) : putK [(kS "stream", a), (kS "level", b), (kS "filters", c), (kS "null", d), (kS "format", e), (kS "style", f), (kS "end", g), (kS "called", h)] (kS "null") z = [(kS "stream", a), (kS "level", b), (kS "filters", c), (kS "null", z), (kS "format", e), (kS "style", f), (kS "end", g), (kS "called", h)] := by kernel_rfl
section
variable {P : Program} {w : World} {K : PySem.W.Frag} {mg : Str → Option Value} {base : Heap}
theorem sc_law_handler_plan : FnScope ["_law_stream", "_law_found"] ["_law_stream"] (defScope s_law_handler_plan) := ⟨rfl, rfl, rfl, by decide +kernel, rfl, by decide +kernel, by decide +kernel⟩
theorem cal_law_handler_plan (T : Txt w K mg) : Cal P w K mg base 4 "_law_handler_plan" (spHandlerPlan) [] := by
  obtain ⟨fd, F⟩ := T.df_law_handler_plan
  have c_law_pick := cal_law_pick (P := P) (base := base) T
  have c_law_level := cal_law_level (P := P) (base := base) T
  have c_law_draw := cal_law_draw (P := P) (base := base) T
  have c_law_names := cal_law_names (P := P) (base := base) T
  have c_law_format := cal_law_format (P := P) (base := base) T
  refine ⟨_, fd, ["_law_stream"], [], F.ok sc_law_handler_plan (fun vs H Q E h => ?_) (fun cdv A outer s H vs Q E hr h => ?_), T.m_law_handler_plan, F.kp, F.bindsN (fun _ _ _ _ _ _ us hl => match us, hl with | [_], _ => rfl), .nil⟩
  · obtain ⟨_, _, _, rfl, _⟩ := h
    rfl
  · obtain ⟨s, l, n, rfl, hs, hn, k⟩ := h
    have hn' := bud hn
    -- 0 _law_stream, 1 _law_found
    refine ⟨_, PSs.nox (pss_cons (ps_set (i := 1) sc_law_handler_plan.nd rfl (Or.inl rfl) (pe_disp (pps_cons pe_str (pe_c c_law_pick hr (by decide) (by rfl) (pa_cons (pv 0) (pa_cons (pe_lst (pa_cons pe_str (pa_cons pe_str (pa_cons pe_str (pa_cons pe_str pa_nil))))) pa_nil))) (pps_cons pe_str (pe_c c_law_level hr (by decide) (by rfl) (pa_cons (pv 0) pa_nil)) pps_nil)) (by rfl) (by rfl) (fun z => by cases z) (by decide)))
      (pss_cut (ps_expr (RyR.pe_dupd (pv 1) (pe_disp (pps_cons pe_str (pe_ifExp (pt_cmpR op_eq (pe_c c_law_draw hr (by decide) (by rfl) (pa_cons (pv 0) (pa_cons pe_int pa_nil))) pe_int (nomark _)) (pe_c c_law_names hr (by decide) (by rfl) (pa_cons (pv 0) (pa_cons pe_int pa_nil))) (pe_lst pa_nil)) (pps_cons pe_str pe_bl pps_nil)) (by rfl) (by rfl) (fun z => by cases z) (by decide)) (by constructor <;> rfl)))
      (pss_cons (ps_expr (RyR.pe_dupd (pv 1) (pe_disp (pps_cons pe_str (pe_c c_law_format hr (by decide) (by rfl) (pa_cons (pv 0) pa_nil)) (pps_cons pe_str (pe_c c_law_pick hr (by decide) (by rfl) (pa_cons (pv 0) (pa_cons (pe_lst (pa_cons pe_str (pa_cons pe_str pa_nil))) pa_nil))) (pps_cons pe_str pe_str pps_nil))) (by rfl) (by rfl) (fun z => by cases z) (by decide)) (by constructor <;> rfl)))
      (pss_cons (ps_dput (hu_of hr) (pv 1) pe_str pe_non rfl)
      (pss_cut (ps_if (pt_cmpR op_eq (pe_c c_law_draw hr (by decide) (by rfl) (pa_cons (pv 0) (pa_cons pe_int pa_nil))) pe_int (nomark _))
        (pss_one (ps_dput (hu_of hr) (pv 1) pe_str (pe_c c_law_pick hr (by decide) (by rfl) (pa_cons (pv 0) (pa_cons (pe_lst (pa_cons pe_str (pa_cons pe_str (pa_cons pe_str pa_nil)))) pa_nil))) rfl))
        pss_nil)
      (pss_cons (ps_dput (hu_of hr) (pv 1) pe_str (pe_cmpR op_eq (pe_c c_law_draw hr (by decide) (by rfl) (pa_cons (pv 0) (pa_cons pe_int pa_nil))) pe_int (nomark _)) rfl)
      (pss_one (ps_ret (pv 1))))))))), ?_⟩
    refine fun p hp => ?_
    have op : ¬ onSt s l p := hs.off hp
    refine ⟨_, rfl, ssz rfl, fun q hq => ?_⟩
    refine ⟨s, q, l, n, streamMenu.map V.str, rfl, (hs.new hp).new hq, by simp only [Bud]; omega, (hs.new hp).off hq, upd_same, by decide, by decide, fun x H1 hx hs1 k1 => ?_⟩
    obtain ⟨st, hst, rfl⟩ := List.mem_map.mp hx
    refine ⟨_, rfl, ?_⟩
    refine ⟨s, l, _, rfl, hs1, by simp only [Bud]; omega, fun lv H2 hlv hs2 k2 => ?_⟩
    have e2 : H2 p = some (.dK []) := k2 _ _ (k1 _ _ (upd_at upd_same hq) op) op
    have K2 : Kp (onSt s l) H H2 := (((Kp.new hp).trans (Kp.new hq)).trans k1).trans k2
    refine ⟨e2, [(kS "stream", .str st), (kS "level", .int lv)], rfl, Nat.le_of_ble_eq_true rfl, ?_⟩
    rw [mg1]
    have hs3 := hs2.upd (o := .dK [(kS "stream", .str st), (kS "level", .int lv)]) op
    have K3 := K2.wr (o := .dK [(kS "stream", .str st), (kS "level", .int lv)]) hp
    have e3 := upd_same (H := H2) (a := p) (o := .dK [(kS "stream", .str st), (kS "level", .int lv)])
    generalize L2.upd H2 p (.dK [(kS "stream", .str st), (kS "level", .int lv)]) = H3 at *
    refine ⟨fun σ' H' => σ' = [some (.ref s), some (.ref p)] ∧ StAt H' s l (n + 6) ∧ Kp (onSt s l) H H' ∧ ∃ (fl : Addr) (fs : List Str), (∀ x ∈ fs, x ∈ nameMenu) ∧ fs.length ≤ 2 ∧ Fre H fl ∧ H' fl = some (.lst (fs.map V.str)) ∧
      H' p = some (.dK [(kS "stream", .str st), (kS "level", .int lv), (kS "filters", .ref fl), (kS "null", .bl false)]), ?_, ?_⟩
    · refine ⟨_, rfl, ?_⟩
      refine ⟨p, rfl, .inl ⟨_, .inl e3⟩, ?_⟩
      refine fun d hd => ?_
      have nd : Fre H d := K3.was hs3 hd
      have od : ¬ onSt s l d := hs.off nd
      have hpd : p ≠ d := ne_of_none e3 hd
      refine ⟨_, rfl, ?_⟩
      refine ⟨s, l, 2, _, rfl, hs3.new hd, by omega, by omega, by omega, fun b H4 _ _ hs4 k4 => ?_⟩
      refine ⟨rfl, _, rfl, ?_⟩
      have e4 : H4 p = some (.dK [(kS "stream", .str st), (kS "level", .int lv)]) := k4 _ _ (upd_at e3 hd) op
      have d4 : H4 d = some (.dK []) := k4 _ _ upd_same od
      have K4 : Kp (onSt s l) H H4 := (K3.trans (Kp.new hd)).trans k4
      refine ite2 (fun _ => ?_) (fun _ => ?_)
      · refine ⟨_, rfl, ?_⟩
        refine ⟨s, l, _, 2, rfl, hs4, by simp only [Bud]; omega, by decide, fun fl fs H5 nfl hfs lfs efl hs5 k5 => ?_⟩
        have nfl' : Fre H fl := K4.was hs4 nfl
        have hdf : fl ≠ d := fun z => by rw [z, d4] at nfl; cases nfl
        have hpf : fl ≠ p := fun z => by rw [z, e4] at nfl; cases nfl
        refine ⟨k5 _ _ d4 od, [(kS "filters", .ref fl), (kS "null", .bl false)], rfl, Nat.le_of_ble_eq_true rfl, ?_⟩
        refine ⟨d, _, _, rfl, hpd, by rw [upd_ne hpd]; exact k5 _ _ e4 op, upd_same, ssz rfl, ?_⟩
        rw [mg2]
        refine ⟨rfl, ((hs5.upd od).upd op).mono (by omega), ((K4.trans k5).wr nd).wr hp, fl, fs, hfs, lfs, nfl', ?_, upd_same⟩
        rw [upd_ne hpf, upd_ne hdf]
        exact efl
      · refine ⟨ssz rfl, fun fl nfl => ?_⟩
        have nfl' : Fre H fl := K4.was hs4 nfl
        have hdf : fl ≠ d := fun z => by rw [z, d4] at nfl; cases nfl
        have hpf : fl ≠ p := fun z => by rw [z, e4] at nfl; cases nfl
        refine ⟨upd_at d4 nfl, [(kS "filters", .ref fl), (kS "null", .bl false)], rfl, Nat.le_of_ble_eq_true rfl, ?_⟩
        refine ⟨d, _, _, rfl, hpd, by rw [upd_ne hpd]; exact upd_at e4 nfl, upd_same, ssz rfl, ?_⟩
        rw [mg2]
        refine ⟨rfl, (((hs4.new nfl).upd od).upd op).mono (by omega), ((K4.wr nfl').wr nd).wr hp, fl, [], (fun x h => nomatch h), Nat.zero_le _, nfl', ?_, upd_same⟩
        rw [upd_ne hpf, upd_ne hdf]
        exact upd_same
    · rintro σ' H4 ⟨rfl, hs4, K4, fl, fs, hfs, lfs, nfl, efl, e4⟩
      have ofl : ¬ onSt s l fl := hs.off nfl
      have hfp : fl ≠ p := ne_of efl e4 (fun z => nomatch z)
      refine ⟨_, rfl, ?_⟩
      refine ⟨p, rfl, .inl ⟨_, .inl e4⟩, ?_⟩
      refine fun d hd => ?_
      have nd : Fre H d := K4.was hs4 hd
      have od : ¬ onSt s l d := hs.off nd
      have hpd : p ≠ d := ne_of_none e4 hd
      have hfd : fl ≠ d := ne_of_none efl hd
      refine ⟨_, rfl, ?_⟩
      refine ⟨s, l, _, rfl, hs4.new hd, by simp only [Bud]; omega, fun fv o H5 ho hf hs5 k5 => ?_⟩
      have hf' : FmtV (fun b => Fre H b ∧ b ≠ p ∧ b ≠ d) H5 fv o := hf.kp (M := fun _ => False) (Kp.same Same.rfl') fun b hb => ⟨⟨K4.was hs4 (was_none hb), Fre.ne hb (upd_at e4 hd), Fre.ne hb upd_same⟩, fun z => z⟩
      refine ⟨_, rfl, ssz rfl, fun q hq => ?_⟩
      have K5 : Kp (onSt s l) (L2.upd H4 d (.dK [])) H5 := k5
      refine ⟨s, q, l, _, ([true, false].map styleOf).map V.str, rfl, hs5.new hq, by simp only [Bud]; omega, hs5.off hq, upd_same, by decide, by decide, fun x H6 hx hs6 k6 => ?_⟩
      obtain ⟨z, hz, rfl⟩ := List.mem_map.mp hx
      obtain ⟨sty, _, rfl⟩ := List.mem_map.mp hz
      have K6 : Kp (onSt s l) (L2.upd H4 d (.dK [])) H6 := (k5.trans (Kp.new hq)).trans k6
      have d6 : H6 d = some (.dK []) := K6 _ _ upd_same od
      have e6 : H6 p = some (.dK [(kS "stream", .str st), (kS "level", .int lv), (kS "filters", .ref fl), (kS "null", .bl false)]) := K6 _ _ (upd_at e4 hd) op
      have f6 : H6 fl = some (.lst (fs.map V.str)) := K6 _ _ (upd_at efl hd) ofl
      have hf6 : FmtV (fun b => Fre H b ∧ b ≠ p ∧ b ≠ d) H6 fv o := hf'.kp ((Kp.new hq).trans k6) fun b hb => ⟨hb, hs.off hb.1⟩
      -- d and p are not of the format
      refine ⟨d6, [(kS "format", fv), (kS "style", .str (styleOf sty)), (kS "end", .str "\n")], rfl, Nat.le_of_ble_eq_true rfl, ?_⟩
      refine ⟨d, _, _, rfl, hpd, by rw [upd_ne hpd]; exact e6, upd_same, ssz rfl, ?_⟩
      rw [mg3]
      have hf8 : FmtV (fun b => Fre H b ∧ b ≠ p ∧ b ≠ d) (L2.upd (L2.upd H6 d (.dK (mergeK [] [(kS "format", fv), (kS "style", .str (styleOf sty)), (kS "end", .str "\n")]))) p
          (.dK [(kS "stream", .str st), (kS "level", .int lv), (kS "filters", .ref fl), (kS "null", .bl false), (kS "format", fv), (kS "style", .str (styleOf sty)), (kS "end", .str "\n")])) fv o :=
        (hf6.kp (M := fun b => b = d) (Kp.at rfl) fun b hb => ⟨hb, hb.2.2⟩).kp (M := fun b => b = p) (Kp.at rfl) fun b hb => ⟨hb, hb.2.1⟩
      have hs8 := (hs6.upd (o := .dK (mergeK [] [(kS "format", fv), (kS "style", .str (styleOf sty)), (kS "end", .str "\n")])) od).upd (o := .dK [(kS "stream", .str st), (kS "level", .int lv), (kS "filters", .ref fl), (kS "null", .bl false), (kS "format", fv), (kS "style", .str (styleOf sty)), (kS "end", .str "\n")]) op
      have K8 := ((K4.trans ((Kp.new hd).trans K6)).wr (o := .dK (mergeK [] [(kS "format", fv), (kS "style", .str (styleOf sty)), (kS "end", .str "\n")])) nd).wr (o := .dK [(kS "stream", .str st), (kS "level", .int lv), (kS "filters", .ref fl), (kS "null", .bl false), (kS "format", fv), (kS "style", .str (styleOf sty)), (kS "end", .str "\n")]) hp
      have e8 := upd_same (H := L2.upd H6 d (.dK (mergeK [] [(kS "format", fv), (kS "style", .str (styleOf sty)), (kS "end", .str "\n")]))) (a := p) (o := .dK [(kS "stream", .str st), (kS "level", .int lv), (kS "filters", .ref fl), (kS "null", .bl false), (kS "format", fv), (kS "style", .str (styleOf sty)), (kS "end", .str "\n")])
      have f8 : L2.upd (L2.upd H6 d (.dK (mergeK [] [(kS "format", fv), (kS "style", .str (styleOf sty)), (kS "end", .str "\n")]))) p
          (.dK [(kS "stream", .str st), (kS "level", .int lv), (kS "filters", .ref fl), (kS "null", .bl false), (kS "format", fv), (kS "style", .str (styleOf sty)), (kS "end", .str "\n")]) fl = some (.lst (fs.map V.str)) := by
        rw [upd_ne hfp, upd_ne hfd]
        exact f6
      generalize L2.upd (L2.upd H6 d (.dK (mergeK [] [(kS "format", fv), (kS "style", .str (styleOf sty)), (kS "end", .str "\n")]))) p
          (.dK [(kS "stream", .str st), (kS "level", .int lv), (kS "filters", .ref fl), (kS "null", .bl false), (kS "format", fv), (kS "style", .str (styleOf sty)), (kS "end", .str "\n")]) = H8 at *
      refine ⟨_, rfl, ?_⟩
      refine ⟨p, _, rfl, DPut.k (k := kS "called") e8 (lsz rfl), ?_⟩
      rw [mg4]
      refine ⟨fun σ' H' => σ' = [some (.ref s), some (.ref p)] ∧ StAt H' s l (n + 50) ∧ Kp (onSt s l) H H' ∧ FmtV (fun b => Fre H b ∧ b ≠ p ∧ b ≠ d) H' fv o ∧ H' fl = some (.lst (fs.map V.str)) ∧ ∃ tm, tm ∈ endMenu ∧
        H' p = some (.dK [(kS "stream", .str st), (kS "level", .int lv), (kS "filters", .ref fl), (kS "null", .bl false), (kS "format", fv), (kS "style", .str (styleOf sty)), (kS "end", .str tm), (kS "called", .non)]), ?_, ?_⟩
      · have hf9 := hf8.kp (H' := L2.upd H8 p (.dK [(kS "stream", .str st), (kS "level", .int lv), (kS "filters", .ref fl), (kS "null", .bl false), (kS "format", fv), (kS "style", .str (styleOf sty)), (kS "end", .str "\n"), (kS "called", .non)])) (N' := fun b => Fre H b ∧ b ≠ p ∧ b ≠ d) (M := fun b => b = p) (Kp.at rfl) fun b hb => ⟨hb, hb.2.1⟩
        refine ⟨_, rfl, ?_⟩
        refine ⟨s, l, 3, _, rfl, hs8.upd op, by omega, by omega, by omega, fun b H9 _ _ hs9 k9 => ?_⟩
        refine ⟨rfl, _, rfl, ?_⟩
        have e9 := k9 _ _ upd_same op
        have f9 := k9 _ _ (by rw [upd_ne hfp]; exact f8) ofl
        have hf10 := hf9.kp k9 (N' := fun b => Fre H b ∧ b ≠ p ∧ b ≠ d) fun b hb => ⟨hb, hs.off hb.1⟩
        have K9 := (K8.wr hp).trans k9
        refine ite2 (fun _ => ?_) (fun _ => ?_)
        · refine ⟨_, rfl, ssz rfl, fun q hq => ?_⟩
          refine ⟨s, q, l, _, (["", ";", "\n\n"] : List Str).map V.str, rfl, hs9.new hq, by simp only [Bud]; omega, hs9.off hq, upd_same, by decide, by decide, fun x Ha hx ha ka => ?_⟩
          obtain ⟨tm, htm, rfl⟩ := List.mem_map.mp hx
          have kqa := (Kp.new (M := onSt s l) (o := .lst ((["", ";", "\n\n"] : List Str).map V.str)) hq).trans ka
          refine ⟨_, rfl, ?_⟩
          refine ⟨p, _, rfl, DPut.k (k := kS "end") (kqa _ _ e9 op) (lsz rfl), ?_⟩
          rw [mg5]
          refine ⟨rfl, (ha.upd op).mono (by omega), ((K9.trans kqa).wr hp), (hf10.kp kqa (N' := fun b => Fre H b ∧ b ≠ p ∧ b ≠ d) fun b hb => ⟨hb, hs.off hb.1⟩).kp (M := fun b => b = p) (Kp.at rfl) fun b hb => ⟨hb, hb.2.1⟩, by rw [upd_ne hfp]; exact kqa _ _ f9 ofl, tm, ?_, upd_same⟩
          exact List.mem_append_left (["\n"] : List Str) htm
        · exact ⟨rfl, hs9.mono (by omega), K9, hf10, f9, "\n", by decide, e9⟩
      · rintro σ' H9 ⟨rfl, hs9, K9, hf9, f9, tm, htm, e9⟩
        refine ⟨_, rfl, ?_⟩
        refine ⟨s, l, 9, _, rfl, hs9, by omega, by omega, by omega, fun b Ha _ _ ha ka => ?_⟩
        refine ⟨rfl, ?_⟩
        refine ⟨_, rfl, ?_⟩
        refine ⟨p, _, rfl, DPut.k (k := kS "null") (ka _ _ e9 op) (lsz rfl), ?_⟩
        rw [mg6]
        refine ⟨_, rfl, ?_⟩
        have hfa := (hf9.kp ka (N' := fun b => Fre H b ∧ b ≠ p ∧ b ≠ d) fun b hb => ⟨hb, hs.off hb.1⟩)
        refine k p ⟨st, lv, fs, decide (V.int b = V.int 0), o, sty, tm, none⟩ _ ⟨hst, hlv, hfs, lfs, ho, htm⟩ rfl ⟨fl, fv, hp, upd_same, nfl, by rw [upd_ne hfp]; exact ka _ _ f9 ofl, hfa.kp (M := fun b => b = p) (Kp.at rfl) fun b hb => ⟨hb.1, hb.2.1⟩⟩ ((ha.upd op).mono (by omega)) ((K9.trans ka).wr hp)
end
end Ry
namespace Ry
open PySem PySem.Spec PyProof.Rows L2 He RyH
open C8 (pss_cut tCut Cal Met Mak pe_c pe_mk pe_mt pe_mt0 pe_gc)
/-! ### the plan of a logger -/
structure RP where
  level : Int
  prop : Bool
  handlers : List Nat
  filters : List Str
  disabled : Bool
structure RPok (many : Nat) (r : RP) : Prop where
  level : r.level ∈ levelMenu
  filters : ∀ x ∈ r.filters, x ∈ nameMenu
  fewF : r.filters.length ≤ 2
  handlers : ∀ i ∈ r.handlers, i < many
  nd : r.handlers.Nodup
  fewH : r.handlers.length ≤ 2
abbrev natV (k : Nat) : V := .int (k : Nat)
def rpK (r : RP) (hl fl : Addr) : List (Key × V) := [(kS "level", .int r.level), (kS "propagate", .bl r.prop), (kS "handlers", .ref hl), (kS "filters", .ref fl), (kS "disabled", .bl r.disabled)]
def RowAt (N : Addr → Prop) (H : Hp) (p : Addr) (r : RP) : Prop := ∃ hl fl, N p ∧ H p = some (.dK (rpK r hl fl)) ∧ N hl ∧ H hl = some (.lst (r.handlers.map natV)) ∧ N fl ∧ H fl = some (.lst (r.filters.map V.str))
theorem RowAt.kp {N N' M : Addr → Prop} {H H' : Hp} {p : Addr} {r : RP} (x : RowAt N H p r) (k : Kp M H H') (hn : ∀ b, N b → N' b ∧ ¬ M b) : RowAt N' H' p r := by
  obtain ⟨hl, fl, n1, e1, n2, e2, n3, e3⟩ := x
  exact ⟨hl, fl, (hn p n1).1, k _ _ e1 (hn p n1).2, (hn hl n2).1, k _ _ e2 (hn hl n2).2, (hn fl n3).1, k _ _ e3 (hn fl n3).2⟩
def spLoggerPlan : Sp := fun vs H Q _ => ∃ (s l : Addr) (n many : Nat), vs = [.ref s, natV many] ∧ StAt H s l n ∧ n + 20 < Bud ∧ many < 100 ∧
  ∀ p r H', RPok many r → RowAt (Fre H) H' p r → StAt H' s l (n + 20) → Kp (onSt s l) H H' → Q (.ref p) H'
theorem mr1 (a b c d : V) : mergeK [] [(kS "level", a), (kS "propagate", b), (kS "handlers", c), (kS "filters", d)] = [(kS "level", a), (kS "propagate", b), (kS "handlers", c), (kS "filters", d)] := by kernel_rfl
theorem mr2 (a b c d e : V) : putK [(kS "level", a), (kS "propagate", b), (kS "handlers", c), (kS "filters", d)] (kS "disabled") e = [(kS "level", a), (kS "propagate", b), (kS "handlers", c), (kS "filters", d), (kS "disabled", e)] := by kernel_rfl
theorem mr3 (a b c d e f : V) : putK [(kS "level", a), (kS "propagate", b), (kS "handlers", c), (kS "filters", d), (kS "disabled", e)] (kS "filters") f = [(kS "level", a), (kS "propagate", b), (kS "handlers", c), (kS "filters", f), (kS "disabled", e)] := by kernel_rfl
theorem mr4 (a b c d e : V) : valV [(kS "level", a), (kS "propagate", b), (kS "handlers", c), (kS "filters", d), (kS "disabled", e)] (kS "handlers") = some c := by kernel_rfl
theorem inV_nat (x : Nat) : ∀ hs : List Nat, inV (natV x) (hs.map natV) = decide (x ∈ hs)
  | [] => rfl
  | y :: hs => by
    have ih := inV_nat x hs
    unfold inV at ih ⊢
    rw [List.map_cons, List.any_cons, ih]
    by_cases e : x = y
    · subst e
      simp [eqV]
    · have e1 : ¬ y = x := fun z => e z.symm
      have e2 : ¬ ((y : Int) = (x : Int)) := fun z => e1 (by omega)
      simp [eqV, e, e2]
theorem flat_nat : ∀ hs : List Nat, (hs.map natV).all flatV = true
  | [] => rfl
  | y :: hs => by
    rw [List.map_cons, List.all_cons, flat_nat hs]
    rfl
section
variable {P : Program} {w : World} {K : PySem.W.Frag} {mg : Str → Option Value} {base : Heap}
theorem sc_law_logger_plan : FnScope ["_law_stream", "_law_many", "_law_found", "_law_k", "_law_at"] ["_law_stream", "_law_many"] (defScope s_law_logger_plan) := ⟨rfl, rfl, rfl, by decide +kernel, rfl, by decide +kernel, by decide +kernel⟩
theorem cal_law_logger_plan (T : Txt w K mg) : Cal P w K mg base 4 "_law_logger_plan" (spLoggerPlan) [] := by
  obtain ⟨fd, F⟩ := T.df_law_logger_plan
  have c_law_level := cal_law_level (P := P) (base := base) T
  have c_law_draw := cal_law_draw (P := P) (base := base) T
  have c_law_names := cal_law_names (P := P) (base := base) T
  refine ⟨_, fd, ["_law_stream", "_law_many"], [], F.ok sc_law_logger_plan (fun vs H Q E h => ?_) (fun cdv A outer s H vs Q E hr h => ?_), T.m_law_logger_plan, F.kp, F.bindsN (fun _ _ _ _ _ _ us hl => match us, hl with | [_, _], _ => rfl), .nil⟩
  · obtain ⟨_, _, _, _, rfl, _⟩ := h
    rfl
  · obtain ⟨s, l, n, many, rfl, hs, hn, hm, k⟩ := h
    have hn' := bud hn
    -- 0 _law_stream, 1 _law_many, 2 _law_found, 3 _law_k, 4 _law_at
    refine ⟨_, PSs.nox (pss_cons (ps_set (i := 2) sc_law_logger_plan.nd rfl (Or.inl rfl) (pe_disp (pps_cons pe_str (pe_c c_law_level hr (by decide) (by rfl) (pa_cons (pv 0) pa_nil)) (pps_cons pe_str (pe_cmpR op_gt (pe_c c_law_draw hr (by decide) (by rfl) (pa_cons (pv 0) (pa_cons pe_int pa_nil))) pe_int (nomark _)) (pps_cons pe_str (pe_lst pa_nil) (pps_cons pe_str (pe_lst pa_nil) pps_nil)))) (by rfl) (by rfl) (fun z => by cases z) (by decide)))
      (pss_cons (ps_dput (hu_of hr) (pv 2) pe_str (pe_cmpR op_eq (pe_c c_law_draw hr (by decide) (by rfl) (pa_cons (pv 0) (pa_cons pe_int pa_nil))) pe_int (nomark _)) rfl)
      (pss_cut (ps_if (pt_cmpR op_eq (pe_c c_law_draw hr (by decide) (by rfl) (pa_cons (pv 0) (pa_cons pe_int pa_nil))) pe_int (nomark _))
        (pss_one (ps_dput (hu_of hr) (pv 2) pe_str (pe_c c_law_names hr (by decide) (by rfl) (pa_cons (pv 0) (pa_cons pe_int pa_nil))) rfl))
        pss_nil)
      (pss_cons (ps_for PassesOwn.never rfl (pi_range1 (by rfl) T.f_range (pa_cons (RyT.pe_cutE (pe_ifExp (pt_cmpR op_gt (pv 1) pe_int (nomark _)) (pe_c c_law_draw hr (by decide) (by rfl) (pa_cons (pv 0) (pa_cons pe_int pa_nil))) pe_int)) pa_nil)) (pg_name (i := 3) sc_law_logger_plan.nd rfl (Or.inl rfl))
        (pss_cons (ps_set (i := 4) sc_law_logger_plan.nd rfl (Or.inl rfl) (pe_c c_law_draw hr (by decide) (by rfl) (pa_cons (pv 0) (pa_cons (pv 1) pa_nil))))
        (pss_one (ps_expr (pe_bm PySem.F.plainAttrs_list PySem.F.slot_list_extend PySem.F.type_list_extend mt_extend (pe_dget (hu_of hr) (pv 2) pe_str (fun _ _ => rfl)) (pa_cons (pe_op op_rep (pe_lst (pa_cons (pv 4) pa_nil)) (pe_callTy (T := "int") call_int1 (by rfl) T.f_int (by decide +kernel) (pa_cons (pe_cmpR op_notIn_seq (pv 4) (pe_dget (hu_of hr) (pv 2) pe_str (fun _ _ => rfl)) rfl) pa_nil))) pa_nil))))))
      (pss_one (ps_ret (pv 2))))))), ?_⟩
    refine fun p hp => ?_
    have op : ¬ onSt s l p := hs.off hp
    refine ⟨_, rfl, ?_⟩
    refine ⟨s, l, _, rfl, hs.new hp, by simp only [Bud]; omega, fun lv H1 hlv hs1 k1 => ?_⟩
    refine ⟨_, rfl, ?_⟩
    refine ⟨s, l, 5, _, rfl, hs1, by omega, by omega, by omega, fun b H2 _ _ hs2 k2 => ?_⟩
    refine ⟨_, _, rfl, rfl, ?_⟩
    refine ⟨ssz rfl, fun hl nhl => ?_⟩
    refine ⟨ssz rfl, fun fl nfl => ?_⟩
    have K2 : Kp (onSt s l) H H2 := ((Kp.new hp).trans k1).trans k2
    have e2 : H2 p = some (.dK []) := k2 _ _ (k1 _ _ upd_same op) op
    have nh : Fre H hl := K2.was hs2 nhl
    have nf : Fre H fl := K2.was hs2 (was_none nfl)
    have hph : hl ≠ p := fun z => by rw [z, e2] at nhl; cases nhl
    have hpf : fl ≠ p := fun z => by have q := was_none nfl; rw [z, e2] at q; cases q
    have hhf : hl ≠ fl := ne_of_none (upd_same (o := .lst [])) nfl
    refine ⟨upd_at (upd_at e2 nhl) nfl, [(kS "level", .int lv), (kS "propagate", _), (kS "handlers", .ref hl), (kS "filters", .ref fl)], rfl, Nat.le_of_ble_eq_true rfl, ?_⟩
    rw [mr1]
    have hs3 := ((hs2.new (o := .lst []) nhl).new (o := .lst []) nfl).upd (o := .dK [(kS "level", .int lv), (kS "propagate", .bl (decide (0 < b))), (kS "handlers", .ref hl), (kS "filters", .ref fl)]) op
    have K3 := ((K2.wr (o := .lst []) nh).wr (o := .lst []) nf).wr (o := .dK [(kS "level", .int lv), (kS "propagate", .bl (decide (0 < b))), (kS "handlers", .ref hl), (kS "filters", .ref fl)]) hp
    have e3 := upd_same (H := L2.upd (L2.upd H2 hl (.lst [])) fl (.lst [])) (a := p) (o := .dK [(kS "level", .int lv), (kS "propagate", .bl (decide (0 < b))), (kS "handlers", .ref hl), (kS "filters", .ref fl)])
    have h3 : L2.upd (L2.upd (L2.upd H2 hl (.lst [])) fl (.lst [])) p (.dK [(kS "level", .int lv), (kS "propagate", .bl (decide (0 < b))), (kS "handlers", .ref hl), (kS "filters", .ref fl)]) hl = some (.lst []) := by
      rw [upd_ne hph, upd_ne hhf, upd_same]
    have f3 : L2.upd (L2.upd (L2.upd H2 hl (.lst [])) fl (.lst [])) p (.dK [(kS "level", .int lv), (kS "propagate", .bl (decide (0 < b))), (kS "handlers", .ref hl), (kS "filters", .ref fl)]) fl = some (.lst []) := by
      rw [upd_ne hpf, upd_same]
    generalize decide (0 < b) = pr at *
    generalize L2.upd (L2.upd (L2.upd H2 hl (.lst [])) fl (.lst [])) p (.dK [(kS "level", .int lv), (kS "propagate", .bl pr), (kS "handlers", .ref hl), (kS "filters", .ref fl)]) = H3 at *
    -- disabled
    refine ⟨_, rfl, ?_⟩
    refine ⟨s, l, 8, _, rfl, hs3, by omega, by omega, by omega, fun b2 H4 _ _ hs4 k4 => ?_⟩
    refine ⟨rfl, ?_⟩
    refine ⟨_, rfl, ?_⟩
    refine ⟨p, _, rfl, DPut.k (k := kS "disabled") (k4 _ _ e3 op) (lsz rfl), ?_⟩
    rw [mr2]
    have oh : ¬ onSt s l hl := hs.off nh
    have of : ¬ onSt s l fl := hs.off nf
    have h4 := k4 _ _ h3 oh
    have f4 := k4 _ _ f3 of
    have K4 := K3.trans k4
    clear h3 f3 e3 hs3 K3 k4 K2 k1 k2 e2 hs1 hs2
    generalize decide (V.int b2 = V.int 0) = di at *
    refine ⟨fun σ' H' => σ' = [some (.ref s), some (natV many), some (.ref p), none, none] ∧ StAt H' s l (n + 10) ∧ Kp (onSt s l) H H' ∧ H' hl = some (.lst []) ∧ ∃ (f2 : Addr) (fs : List Str), (∀ x ∈ fs, x ∈ nameMenu) ∧ fs.length ≤ 2 ∧ Fre H f2 ∧ f2 ≠ hl ∧ f2 ≠ p ∧ H' f2 = some (.lst (fs.map V.str)) ∧
      H' p = some (.dK [(kS "level", .int lv), (kS "propagate", .bl pr), (kS "handlers", .ref hl), (kS "filters", .ref f2), (kS "disabled", .bl di)]), ?_, ?_⟩
    · refine ⟨_, rfl, ?_⟩
      refine ⟨s, l, 4, _, rfl, hs4.upd op, by omega, by omega, by omega, fun b3 H5 _ _ hs5 k5 => ?_⟩
      have K5 := (K4.wr (o := .dK [(kS "level", .int lv), (kS "propagate", .bl pr), (kS "handlers", .ref hl), (kS "filters", .ref fl), (kS "disabled", .bl di)]) hp).trans k5
      have e5 := k5 _ _ upd_same op
      have h5 := k5 _ _ (by rw [upd_ne hph]; exact h4) oh
      have f5 := k5 _ _ (by rw [upd_ne hpf]; exact f4) of
      refine ⟨rfl, _, rfl, ?_⟩
      refine ite2 (fun _ => ?_) (fun _ => ?_)
      · refine ⟨_, rfl, ?_⟩
        refine ⟨s, l, _, 2, rfl, hs5, by simp only [Bud]; omega, by decide, fun f2 fs H6 nf2 hfs lfs ef2 hs6 k6 => ?_⟩
        refine ⟨_, rfl, ?_⟩
        refine ⟨p, _, rfl, DPut.k (k := kS "filters") (k6 _ _ e5 op) (lsz rfl), ?_⟩
        rw [mr3]
        have n1 : f2 ≠ hl := Fre.ne nf2 h5
        have n2 : f2 ≠ p := Fre.ne nf2 e5
        exact ⟨rfl, (hs6.upd op).mono (by omega), (K5.trans k6).wr hp, by rw [upd_ne hph]; exact k6 _ _ h5 oh, f2, fs, hfs, lfs, K5.was hs5 nf2, n1, n2, by rw [upd_ne n2]; exact ef2, upd_same⟩
      · exact ⟨rfl, hs5.mono (by omega), K5, h5, fl, [], (fun x h => nomatch h), Nat.zero_le _, nf, Ne.symm hhf, hpf, f5, e5⟩
    · rintro σ' H5 ⟨rfl, hs5, K5, h5, f2, fs, hfs, lfs, nf2, n1, n2, ef2, e5⟩
      have of2 : ¬ onSt s l f2 := hs.off nf2
      refine ⟨fun v H' => ∃ c : Nat, v = natV c ∧ c ≤ 2 ∧ (0 < c → 0 < many) ∧ StAt H' s l (n + 11) ∧ Kp (onSt s l) H5 H', ?_, ?_⟩
      · refine ⟨_, rfl, ?_⟩
        refine ⟨_, _, rfl, rfl, _, rfl, ?_⟩
        refine ite2 (fun e => ?_) (fun _ => ?_)
        · have hm0 : 0 < many := by simpa using e
          refine ⟨_, rfl, ?_⟩
          refine ⟨s, l, 3, _, rfl, hs5, by omega, by omega, by omega, fun c H6 c0 c1 hs6 k6 => ?_⟩
          obtain ⟨c, rfl⟩ := Int.eq_ofNat_of_zero_le c0
          exact ⟨c, rfl, by omega, fun _ => hm0, hs6.mono (by omega), k6⟩
        · exact ⟨0, rfl, by omega, fun z => absurd z (by omega), hs5.mono (by omega), Kp.refl⟩
      · rintro v H6 ⟨c, rfl, c2, cm, hs6, k6⟩
        refine ⟨c, rfl, by omega, by omega, ?_⟩
        refine for_range (n := c) (fun i σ' H' => i ≤ c ∧ ∃ (o1 o2 : Option V) (hs' : List Nat), σ' = [some (.ref s), some (natV many), some (.ref p), o1, o2] ∧ StAt H' s l (n + 11 + i) ∧ Kp (onSt s l) H H' ∧ H' hl = some (.lst (hs'.map natV)) ∧ H' f2 = some (.lst (fs.map V.str)) ∧
          H' p = some (.dK [(kS "level", .int lv), (kS "propagate", .bl pr), (kS "handlers", .ref hl), (kS "filters", .ref f2), (kS "disabled", .bl di)]) ∧ hs'.length ≤ i ∧ hs'.Nodup ∧ ∀ x ∈ hs', x < many) ?_ ?_ ?_
        · exact ⟨Nat.zero_le _, _, _, [], rfl, hs6, K5.trans k6, k6 _ _ h5 oh, k6 _ _ ef2 of2, k6 _ _ e5 op, Nat.le_refl _, List.nodup_nil, fun x h => nomatch h⟩
        · rintro i σ' H7 hi ⟨_, o1, o2, hs', rfl, hs7, K7, h7, f7, e7, len7, nd7, lt7⟩
          have hm0 := cm (by omega)
          refine ⟨_, rfl, _, rfl, ?_⟩
          refine ⟨s, l, _, _, rfl, hs7, by omega, by omega, by omega, fun a H8 a0 a1 hs8 k8 => ?_⟩
          obtain ⟨a, rfl⟩ := Int.eq_ofNat_of_zero_le a0
          have e8 := k8 _ _ e7 op
          have h8 := k8 _ _ h7 oh
          have f8 := k8 _ _ f7 of2
          refine ⟨_, rfl, ?_⟩
          refine ⟨p, _, rfl, (by rw [← mr4 (.int lv) (.bl pr) (.ref hl) (.ref f2) (.bl di)]; exact DGet.k (k := kS "handlers") e8), ?_⟩
          refine ⟨.inl ⟨rfl, _, SqL.of h8⟩, ?_⟩
          refine ⟨_, rfl, ssz rfl, fun q hq => ?_⟩
          have hq8 : hl ≠ q := ne_of_none h8 hq
          refine ⟨_, rfl, ?_⟩
          refine ⟨_, rfl, ?_⟩
          refine ⟨p, _, rfl, (by rw [← mr4 (.int lv) (.bl pr) (.ref hl) (.ref f2) (.bl di)]; exact DGet.k (k := kS "handlers") (upd_at e8 hq)), ?_⟩
          refine ⟨hl, _, rfl, .inl (SqL.of (upd_at h8 hq)), rfl, flat_nat _, ?_⟩
          refine .inr ⟨_, rfl, ?_⟩
          have ev : (if true = true then !inV (natV a) (hs'.map natV) else inV (natV a) (hs'.map natV)) = !decide (a ∈ hs') := by rw [if_pos rfl, inV_nat]
          rw [ev]
          have nq : Fre H q := (K7.trans k8).was hs8 hq
          by_cases ha : a ∈ hs'
          · have e : (!decide (a ∈ hs')) = false := by simp [ha]
            rw [e]
            refine ⟨q, _, _, rfl, rfl, upd_same, by decide, by decide, ssz rfl, fun r hr7 => ?_⟩
            have nr : Fre H r := (K7.trans k8).was hs8 (was_none hr7)
            refine ⟨hl, r, hs'.map natV, [], rfl, rfl, upd_at (upd_at h8 hq) hr7, upd_same, small_size (by simp; omega), ?_⟩
            have x1 : f2 ≠ q := ne_of_none f8 hq
            have x2 : f2 ≠ r := ne_of_none (upd_at f8 hq) hr7
            have y1 : p ≠ q := ne_of_none e8 hq
            have y2 : p ≠ r := ne_of_none (upd_at e8 hq) hr7
            refine ⟨hi, _, _, hs', rfl, (((hs8.new hq).new hr7).upd oh).mono (by omega), (((K7.trans k8).wr nq).wr nr).wr nh, by rw [upd_same, List.append_nil], ?_, ?_, by omega, nd7, lt7⟩
            · rw [upd_ne n1, upd_ne x2, upd_ne x1]
              exact f8
            · rw [upd_ne (Ne.symm hph), upd_ne y2, upd_ne y1]
              exact e8
          · have e : (!decide (a ∈ hs')) = true := by simp [ha]
            rw [e]
            refine ⟨q, _, _, rfl, rfl, upd_same, by decide, by decide, ssz rfl, fun r hr7 => ?_⟩
            have nr : Fre H r := (K7.trans k8).was hs8 (was_none hr7)
            refine ⟨hl, r, hs'.map natV, [natV a], rfl, rfl, upd_at (upd_at h8 hq) hr7, upd_same, small_size (by simp; omega), ?_⟩
            have x1 : f2 ≠ q := ne_of_none f8 hq
            have x2 : f2 ≠ r := ne_of_none (upd_at f8 hq) hr7
            have y1 : p ≠ q := ne_of_none e8 hq
            have y2 : p ≠ r := ne_of_none (upd_at e8 hq) hr7
            refine ⟨hi, _, _, hs' ++ [a], rfl, (((hs8.new hq).new hr7).upd oh).mono (by omega), (((K7.trans k8).wr nq).wr nr).wr nh, by rw [upd_same, List.map_append]; rfl, ?_, ?_, by rw [List.length_append, List.length_singleton]; omega, ?_, ?_⟩
            · rw [upd_ne n1, upd_ne x2, upd_ne x1]
              exact f8
            · rw [upd_ne (Ne.symm hph), upd_ne y2, upd_ne y1]
              exact e8
            · exact List.nodup_append.mpr ⟨nd7, by simp, fun x hx y hy => by rw [List.mem_singleton.mp hy]; intro z; rw [z] at hx; exact ha hx⟩
            · intro x hx
              rcases List.mem_append.mp hx with z | z
              · exact lt7 x z
              · rw [List.mem_singleton.mp z]
                omega
        · rintro σ' H7 ⟨_, o1, o2, hs', rfl, hs7, K7, h7, f7, e7, len7, nd7, lt7⟩
          refine ⟨_, rfl, ?_⟩
          exact k p ⟨lv, pr, hs', fs, di⟩ H7 ⟨by assumption, hfs, lfs, lt7, nd7, Nat.le_trans len7 c2⟩ ⟨hl, f2, hp, e7, nh, h7, nf2, f7⟩ (hs7.mono (by omega)) K7
end
end Ry
namespace Ry
open PySem PySem.Spec PyProof.Rows L2 He RyH
open C8 (pss_cut tCut Cal Met Mak pe_c pe_mk pe_mt pe_mt0 pe_gc)
/-! ### a plan -/
structure Pl where
  handlers : List HP
  words : List (Int × Str)
  bar : Int
  loggers : List (Str × RP)
def barMenu : List Int := [0, 0, 0, 0, 4, 10, 19, 30]
def logMenu : List Str := ["a", "b", "a.b", "a.b.c", "b.c", "c", "a.d", "ab", "A", "a.b.c.d", "abcd", "q", "a.q", "rooted"]
def wlMenu : List Int := [7, 17, 20, 25, 31, 0]
def wxMenu : List Str := ["x", "INFO", "NOTE", ""]
/-- what is put under a text: in its place, or at the end -/
def putA {α : Type} (xs : List (Str × α)) (k : Str) (v : α) : List (Str × α) := if (xs.any fun kv => decide (kv.1 = k)) = true then xs.map (fun kv => if kv.1 = k then (kv.1, v) else kv) else xs ++ [(k, v)]
def rowE (x : Str × Addr) : Key × V := (kS x.1, .ref x.2)
theorem any_rowE (k : Str) : ∀ rows : List (Str × Addr), ((rows.map rowE).any fun kv => decide (kv.1 = kS k)) = rows.any fun kv => decide (kv.1 = k)
  | [] => rfl
  | r :: rows => by
    rw [List.map_cons, List.any_cons, List.any_cons, any_rowE k rows]
    have e : decide ((rowE r).1 = kS k) = decide (r.1 = k) := key_rr r.1 k
    rw [e]
theorem map_rowE (k : Str) (a : Addr) : ∀ rows : List (Str × Addr), ((rows.map rowE).map fun kv => if kv.1 = kS k then (kv.1, V.ref a) else kv) = (rows.map fun kv => if kv.1 = k then (kv.1, a) else kv).map rowE
  | [] => rfl
  | r :: rows => by
    rw [List.map_cons, List.map_cons, List.map_cons, List.map_cons, map_rowE k a rows]
    by_cases e : r.1 = k
    · have e2 : (rowE r).1 = kS k := by show Sum.inr r.1 = Sum.inr k; rw [e]
      rw [if_pos e, if_pos e2]
      rfl
    · have e2 : ¬ (rowE r).1 = kS k := fun z => e (Sum.inr.inj z)
      rw [if_neg e, if_neg e2]
theorem putK_row (rows : List (Str × Addr)) (k : Str) (a : Addr) : putK (rows.map rowE) (kS k) (.ref a) = (putA rows k a).map rowE := by
  unfold putK putA
  rw [any_rowE]
  split
  · exact map_rowE k a rows
  · rw [List.map_append]
    rfl
theorem putA_paired {α β : Type} {R : Str × α → Str × β → Prop} (hk : ∀ x y, R x y → x.1 = y.1) {k : Str} {a : α} {b : β} (hab : R (k, a) (k, b)) : ∀ {xs : List (Str × α)} {ys : List (Str × β)}, Paired R xs ys → Paired R (putA xs k a) (putA ys k b) := by
  intro xs ys h
  have ea : (xs.any fun kv => decide (kv.1 = k)) = ys.any fun kv => decide (kv.1 = k) := by
    induction h with
    | nil => rfl
    | cons r t ih => rw [List.any_cons, List.any_cons, ih, hk _ _ r]
  unfold putA
  rw [ea]
  split
  · rename_i z
    clear ea z
    induction h with
    | nil => exact .nil
    | @cons x y xs ys r t ih =>
      rw [List.map_cons, List.map_cons]
      refine .cons ?_ ih
      rw [hk _ _ r]
      by_cases e : y.1 = k
      · rw [if_pos e, if_pos e, e]
        exact hab
      · rw [if_neg e, if_neg e]
        exact r
  · rename_i z
    clear ea z
    induction h with
    | nil => exact .cons hab .nil
    | cons r t ih => exact .cons r ih
theorem putA_len {α : Type} (xs : List (Str × α)) (k : Str) (v : α) : (putA xs k v).length ≤ xs.length + 1 := by
  unfold putA
  split
  · rw [List.length_map]
    omega
  · rw [List.length_append, List.length_singleton]
    omega
theorem putA_mem {α : Type} {xs : List (Str × α)} {k : Str} {v : α} {x : Str × α} (h : x ∈ putA xs k v) : x ∈ xs ∨ x = (k, v) := by
  unfold putA at h
  split at h
  · obtain ⟨y, hy, e⟩ := List.mem_map.mp h
    by_cases z : y.1 = k
    · rw [if_pos z] at e
      rw [← e, z]
      exact .inr rfl
    · rw [if_neg z] at e
      rw [← e]
      exact .inl hy
  · rcases List.mem_append.mp h with z | z
    · exact .inl z
    · exact .inr (List.mem_singleton.mp z)
theorem putA_keys {α : Type} (xs : List (Str × α)) (k : Str) (v : α) : (putA xs k v).map (·.1) = if k ∈ xs.map (·.1) then xs.map (·.1) else xs.map (·.1) ++ [k] := by
  unfold putA
  have e : ((xs.any fun kv => decide (kv.1 = k)) = true) ↔ k ∈ xs.map (·.1) := by
    rw [List.any_eq_true, List.mem_map]
    constructor
    · rintro ⟨x, hx, z⟩
      exact ⟨x, hx, of_decide_eq_true z⟩
    · rintro ⟨x, hx, z⟩
      exact ⟨x, hx, decide_eq_true z⟩
  by_cases z : (xs.any fun kv => decide (kv.1 = k)) = true
  · rw [if_pos z, if_pos (e.mp z), List.map_map]
    refine List.map_congr_left fun x hx => ?_
    show (if x.1 = k then (x.1, v) else x).1 = x.1
    split <;> rfl
  · rw [if_neg z, if_neg (fun q => z (e.mpr q)), List.map_append]
    rfl
theorem putA_nodup {α : Type} {xs : List (Str × α)} {k : Str} {v : α} (h : (xs.map (·.1)).Nodup) : ((putA xs k v).map (·.1)).Nodup := by
  rw [putA_keys]
  split
  · exact h
  · rename_i z
    exact List.nodup_append.mpr ⟨h, by simp, fun x hx y hy => by rw [List.mem_singleton.mp hy]; intro q; rw [q] at hx; exact z hx⟩
def planK (hs ws lg : Addr) (bar : Int) : List (Key × V) := [(kS "handlers", .ref hs), (kS "words", .ref ws), (kS "bar", .int bar), (kS "loggers", .ref lg)]
def WordAt (N : Addr → Prop) (H : Hp) (v : V) (x : Int × Str) : Prop := ∃ t, v = .ref t ∧ N t ∧ H t = some (.tup [.int x.1, .str x.2])
def RowP (N : Addr → Prop) (H : Hp) (x : Str × Addr) (y : Str × RP) : Prop := x.1 = y.1 ∧ RowAt N H x.2 y.2
/-- the addresses of a plan's parts -/
def Inn (N : Addr → Prop) (p hs ws lg : Addr) : Addr → Prop := fun b => N b ∧ b ≠ p ∧ b ≠ hs ∧ b ≠ ws ∧ b ≠ lg
structure PlanW (N : Addr → Prop) (H : Hp) (p hs ws lg : Addr) (hps : List Addr) (wvs : List V) (rows : List (Str × Addr)) (pl : Pl) : Prop where
  np : N p
  nh : N hs
  nw : N ws
  nl : N lg
  d1 : p ≠ hs
  d2 : p ≠ ws
  d3 : p ≠ lg
  d4 : hs ≠ ws
  d5 : hs ≠ lg
  d6 : ws ≠ lg
  at_ : H p = some (.dK (planK hs ws lg pl.bar))
  hsE : H hs = some (.lst (hps.map V.ref))
  hsP : Paired (HPlanAt (Inn N p hs ws lg) H) hps pl.handlers
  wsE : H ws = some (.lst wvs)
  wsP : Paired (WordAt (Inn N p hs ws lg) H) wvs pl.words
  lgE : H lg = some (.dK (rows.map rowE))
  lgP : Paired (RowP (Inn N p hs ws lg) H) rows pl.loggers
def PlanAt (N : Addr → Prop) (H : Hp) (p : Addr) (pl : Pl) : Prop := ∃ hs ws lg hps wvs rows, PlanW N H p hs ws lg hps wvs rows pl
theorem WordAt.kp {N N' M : Addr → Prop} {H H' : Hp} {v : V} {x : Int × Str} (h : WordAt N H v x) (k : Kp M H H') (hn : ∀ b, N b → N' b ∧ ¬ M b) : WordAt N' H' v x := by
  obtain ⟨t, e, n, q⟩ := h
  exact ⟨t, e, (hn t n).1, k _ _ q (hn t n).2⟩
theorem RowP.kp {N N' M : Addr → Prop} {H H' : Hp} {x : Str × Addr} {y : Str × RP} (h : RowP N H x y) (k : Kp M H H') (hn : ∀ b, N b → N' b ∧ ¬ M b) : RowP N' H' x y := ⟨h.1, h.2.kp k hn⟩
theorem PlanW.kp {N N' M : Addr → Prop} {H H' : Hp} {p hs ws lg : Addr} {hps : List Addr} {wvs : List V} {rows : List (Str × Addr)} {pl : Pl} (x : PlanW N H p hs ws lg hps wvs rows pl) (k : Kp M H H') (hn : ∀ b, N b → N' b ∧ ¬ M b) : PlanW N' H' p hs ws lg hps wvs rows pl where
  np := (hn _ x.np).1
  nh := (hn _ x.nh).1
  nw := (hn _ x.nw).1
  nl := (hn _ x.nl).1
  d1 := x.d1
  d2 := x.d2
  d3 := x.d3
  d4 := x.d4
  d5 := x.d5
  d6 := x.d6
  at_ := k _ _ x.at_ (hn _ x.np).2
  hsE := k _ _ x.hsE (hn _ x.nh).2
  hsP := Paired.impl x.hsP fun _ _ z => z.kp k fun b hb => ⟨⟨(hn b hb.1).1, hb.2⟩, (hn b hb.1).2⟩
  wsE := k _ _ x.wsE (hn _ x.nw).2
  wsP := Paired.impl x.wsP fun _ _ z => z.kp k fun b hb => ⟨⟨(hn b hb.1).1, hb.2⟩, (hn b hb.1).2⟩
  lgE := k _ _ x.lgE (hn _ x.nl).2
  lgP := Paired.impl x.lgP fun _ _ z => z.kp k fun b hb => ⟨⟨(hn b hb.1).1, hb.2⟩, (hn b hb.1).2⟩
theorem PlanAt.kp {N N' M : Addr → Prop} {H H' : Hp} {p : Addr} {pl : Pl} (x : PlanAt N H p pl) (k : Kp M H H') (hn : ∀ b, N b → N' b ∧ ¬ M b) : PlanAt N' H' p pl := by
  obtain ⟨hs, ws, lg, hps, wvs, rows, x⟩ := x
  exact ⟨hs, ws, lg, hps, wvs, rows, x.kp k hn⟩
/-- a logger's plan is put under a name -/
theorem PlanW.row {N : Addr → Prop} {H : Hp} {p hs ws lg : Addr} {hps : List Addr} {wvs : List V} {rows : List (Str × Addr)} {pl : Pl} (x : PlanW N H p hs ws lg hps wvs rows pl) {k : Str} {a : Addr} {r : RP} (hr : RowAt (Inn N p hs ws lg) H a r) :
    PlanW N (upd H lg (.dK ((putA rows k a).map rowE))) p hs ws lg hps wvs (putA rows k a) { pl with loggers := putA pl.loggers k r } := by
  have kp : Kp (fun b => b = lg) H (upd H lg (.dK ((putA rows k a).map rowE))) := Kp.at rfl
  have hn : ∀ b, Inn N p hs ws lg b → Inn N p hs ws lg b ∧ ¬ b = lg := fun b hb => ⟨hb, hb.2.2.2.2⟩
  exact ⟨x.np, x.nh, x.nw, x.nl, x.d1, x.d2, x.d3, x.d4, x.d5, x.d6, kp _ _ x.at_ x.d3, kp _ _ x.hsE x.d5, Paired.impl x.hsP fun _ _ z => z.kp kp hn, kp _ _ x.wsE x.d6, Paired.impl x.wsP fun _ _ z => z.kp kp hn, upd_same,
    putA_paired (fun _ _ z => z.1) ⟨rfl, hr.kp kp hn⟩ (Paired.impl x.lgP fun _ _ z => z.kp kp hn)⟩
theorem Paired.snoc {α β : Type} {F : α → β → Prop} {x : α} {y : β} (h : F x y) : ∀ {xs : List α} {ys : List β}, Paired F xs ys → Paired F (xs ++ [x]) (ys ++ [y])
  | _, _, .nil => .cons h .nil
  | _, _, .cons r t => .cons r (Paired.snoc h t)
/-- a word is added -/
theorem PlanW.word {N : Addr → Prop} {H : Hp} {p hs ws lg : Addr} {hps : List Addr} {wvs : List V} {rows : List (Str × Addr)} {pl : Pl} (x : PlanW N H p hs ws lg hps wvs rows pl) {v : V} {y : Int × Str} (hr : WordAt (Inn N p hs ws lg) H v y) :
    PlanW N (upd H ws (.lst (wvs ++ [v]))) p hs ws lg hps (wvs ++ [v]) rows { pl with words := pl.words ++ [y] } := by
  have kp : Kp (fun b => b = ws) H (upd H ws (.lst (wvs ++ [v]))) := Kp.at rfl
  have hn : ∀ b, Inn N p hs ws lg b → Inn N p hs ws lg b ∧ ¬ b = ws := fun b hb => ⟨hb, hb.2.2.2.1⟩
  exact ⟨x.np, x.nh, x.nw, x.nl, x.d1, x.d2, x.d3, x.d4, x.d5, x.d6, kp _ _ x.at_ x.d2, kp _ _ x.hsE x.d4, Paired.impl x.hsP fun _ _ z => z.kp kp hn, upd_same, Paired.snoc (hr.kp kp hn) (Paired.impl x.wsP fun _ _ z => z.kp kp hn), kp _ _ x.lgE (Ne.symm x.d6),
    Paired.impl x.lgP fun _ _ z => z.kp kp hn⟩
structure PlOk (lo ha : Nat) (pl : Pl) : Prop where
  handlers : ∀ h ∈ pl.handlers, HPok h ∧ h.called = none
  fewH : pl.handlers.length ≤ ha
  bar : pl.bar ∈ barMenu
  words : ∀ x ∈ pl.words, x.1 ∈ wlMenu ∧ x.2 ∈ wxMenu
  fewW : pl.words.length ≤ 2
  loggers : ∀ x ∈ pl.loggers, x.1 ∈ ("" : Str) :: logMenu ∧ RPok pl.handlers.length x.2
  nd : (pl.loggers.map (·.1)).Nodup
  root : ("" : Str) ∈ pl.loggers.map (·.1)
  fewL : pl.loggers.length ≤ lo + 1
/-- all its parts stand in the heap -/
theorem FpAt.live {N : Addr → Prop} {H : Hp} {v : V} {p : FP} (h : FpAt N H v p) : FpAt (fun b => N b ∧ H b ≠ none) H v p := by
  cases p with
  | txt x => exact h
  | mark x =>
    obtain ⟨t, e, n, q⟩ := h
    exact ⟨t, e, ⟨n, by rw [q]; simp⟩, q⟩
theorem FmtV.live {N : Addr → Prop} {H : Hp} {v : V} {o : Option (List FP)} (h : FmtV N H v o) : FmtV (fun b => N b ∧ H b ≠ none) H v o := by
  cases o with
  | none => exact h
  | some ps =>
    obtain ⟨a, ys, e, n, q, f⟩ := h
    exact ⟨a, ys, e, ⟨n, by rw [q]; simp⟩, q, Paired.impl f fun _ _ z => z.live⟩
theorem HPlanAt.live {N : Addr → Prop} {H : Hp} {p : Addr} {h : HP} (x : HPlanAt N H p h) : HPlanAt (fun b => N b ∧ H b ≠ none) H p h := by
  obtain ⟨fl, fv, n1, e1, n2, e2, f⟩ := x
  exact ⟨fl, fv, ⟨n1, by rw [e1]; simp⟩, e1, ⟨n2, by rw [e2]; simp⟩, e2, f.live⟩
theorem RowAt.live {N : Addr → Prop} {H : Hp} {p : Addr} {r : RP} (x : RowAt N H p r) : RowAt (fun b => N b ∧ H b ≠ none) H p r := by
  obtain ⟨hl, fl, n1, e1, n2, e2, n3, e3⟩ := x
  exact ⟨hl, fl, ⟨n1, by rw [e1]; simp⟩, e1, ⟨n2, by rw [e2]; simp⟩, e2, ⟨n3, by rw [e3]; simp⟩, e3⟩
theorem HPlanAt.to {N N' : Addr → Prop} {H : Hp} {p : Addr} {h : HP} (x : HPlanAt N H p h) (hn : ∀ b, N b → H b ≠ none → N' b) : HPlanAt N' H p h := x.live.kp (M := fun _ => False) (Kp.same Same.rfl') fun b hb => ⟨hn b hb.1 hb.2, fun z => z⟩
theorem RowAt.to {N N' : Addr → Prop} {H : Hp} {p : Addr} {h : RP} (x : RowAt N H p h) (hn : ∀ b, N b → H b ≠ none → N' b) : RowAt N' H p h := x.live.kp (M := fun _ => False) (Kp.same Same.rfl') fun b hb => ⟨hn b hb.1 hb.2, fun z => z⟩
theorem live_ne {H : Hp} {a b : Addr} (h : H b ≠ none) (e : H a = none) : b ≠ a := fun z => h (by rw [z]; exact e)
theorem PlOk.row {lo ha : Nat} {pl : Pl} (h : PlOk lo ha pl) {k : Str} {r : RP} (hk : k ∈ logMenu) (hr : RPok pl.handlers.length r) : PlOk (lo + 1) ha { pl with loggers := putA pl.loggers k r } :=
  ⟨h.handlers, h.fewH, h.bar, h.words, h.fewW, fun x hx => by
    rcases putA_mem hx with z | z
    · exact h.loggers x z
    · rw [z]
      exact ⟨List.mem_cons_of_mem _ hk, hr⟩, putA_nodup h.nd, by
    rw [putA_keys]
    split
    · exact h.root
    · exact List.mem_append_left _ h.root, Nat.le_trans (putA_len _ _ _) (Nat.succ_le_succ h.fewL)⟩
theorem PlOk.lo {lo lo' ha : Nat} {pl : Pl} (h : PlOk lo ha pl) (k : lo ≤ lo') : PlOk lo' ha pl := ⟨h.handlers, h.fewH, h.bar, h.words, h.fewW, h.loggers, h.nd, h.root, Nat.le_trans h.fewL (Nat.succ_le_succ k)⟩
def spPlan : Sp := fun vs H Q _ => ∃ (s l : Addr) (n lo ha : Nat), vs = [.ref s, natV lo, natV ha] ∧ StAt H s l n ∧ n + 3000 < Bud ∧ lo ≤ 20 ∧ ha ≤ 20 ∧
  ∀ p pl H', PlOk lo ha pl → PlanAt (Fre H) H' p pl → StAt H' s l (n + 3000) → Kp (onSt s l) H H' → Q (.ref p) H'
theorem mp1 (a b : V) : mergeK [] [(kS "handlers", a), (kS "words", b)] = [(kS "handlers", a), (kS "words", b)] := by kernel_rfl
theorem mp2 (a b c : V) : putK [(kS "handlers", a), (kS "words", b)] (kS "bar") c = [(kS "handlers", a), (kS "words", b), (kS "bar", c)] := by kernel_rfl
theorem mp3 (a b c d : V) : putK [(kS "handlers", a), (kS "words", b), (kS "bar", c)] (kS "loggers") d = [(kS "handlers", a), (kS "words", b), (kS "bar", c), (kS "loggers", d)] := by kernel_rfl
theorem mp4 (a : V) : mergeK [] [(kS "", a)] = [(kS "", a)] := by kernel_rfl
theorem vp1 (a b : V) : valV [(kS "handlers", a), (kS "words", b)] (kS "handlers") = some a := by kernel_rfl
theorem vp2 (a b c d : V) : valV [(kS "handlers", a), (kS "words", b), (kS "bar", c), (kS "loggers", d)] (kS "loggers") = some d := by kernel_rfl
theorem vp3 (a b c d : V) : valV [(kS "handlers", a), (kS "words", b), (kS "bar", c), (kS "loggers", d)] (kS "words") = some b := by kernel_rfl
section
variable {P : Program} {w : World} {K : PySem.W.Frag} {mg : Str → Option Value} {base : Heap}
theorem sc_law_plan : FnScope ["_law_stream", "_law_loggers", "_law_handlers", "_law_plan_here", "_law_many", "_law_k", "_law_names_here", "_law_name", "_law_level_here"] ["_law_stream", "_law_loggers", "_law_handlers"] (defScope s_law_plan) := ⟨rfl, rfl, rfl, by decide +kernel, rfl, by decide +kernel, by decide +kernel⟩
theorem cal_law_plan (T : Txt w K mg) : Cal P w K mg base 5 "_law_plan" (spPlan) [] := by
  obtain ⟨fd, F⟩ := T.df_law_plan
  have c_law_draw := cal_law_draw (P := P) (base := base) T
  have c_law_handler_plan := cal_law_handler_plan (P := P) (base := base) T
  have c_law_pick := cal_law_pick (P := P) (base := base) T
  have c_law_logger_plan := cal_law_logger_plan (P := P) (base := base) T
  refine ⟨_, fd, ["_law_stream", "_law_loggers", "_law_handlers"], [], F.ok sc_law_plan (fun vs H Q E h => ?_) (fun cdv A outer s H vs Q E hr h => ?_), T.m_law_plan, F.kp, F.bindsN (fun _ _ _ _ _ _ us hl => match us, hl with | [_, _, _], _ => rfl), .nil⟩
  · obtain ⟨_, _, _, _, _, rfl, _⟩ := h
    rfl
  · obtain ⟨s, l, n, lo, ha, rfl, hs, hn, hlo, hha, k⟩ := h
    have hn' := bud hn
    -- 0 _law_stream, 1 _law_loggers, 2 _law_handlers, 3 _law_plan_here, 4 _law_many, 5 _law_k, 6 _law_names_here, 7 _law_name, 8 _law_level_here
    refine ⟨_, PSs.nox (pss_cons (ps_set (i := 3) sc_law_plan.nd rfl (Or.inl rfl) (pe_disp (pps_cons pe_str (pe_lc (own := [("_law_k", 5)]) rfl sc_law_plan.nd (pi_range1 (by rfl) T.f_range (pa_cons (pe_c c_law_draw hr (by decide) (by rfl) (pa_cons (pv 0) (pa_cons (pe_op op_add (pv 2) pe_int) pa_nil))) pa_nil)) (blkOk_by (N := ["_law_stream", "_law_loggers", "_law_handlers", "_law_plan_here", "_law_many", "_law_k", "_law_names_here", "_law_name", "_law_level_here"]) (sc := defScope s_law_plan) (own := [("_law_k", 5)]) (by decide +kernel)) (fun _ _ _ _ _ => pg_name (i := 5) sc_law_plan.nd rfl (Or.inl rfl)) (fun _ _ _ _ _ => pts_nil) (fun _ _ _ _ _ => (pe_c c_law_handler_plan hr (by decide) (by rfl) (pa_cons (pv 0) pa_nil)))) (pps_cons pe_str (pe_lst pa_nil) pps_nil)) (by rfl) (by rfl) (fun z => by cases z) (by decide)))
      (pss_cons (ps_set (i := 4) sc_law_plan.nd rfl (Or.inl rfl) (pe_callB (id := "len") call_len_seq (by rfl) T.f_len PySem.boot_len (pa_cons (pe_dget (hu_of hr) (pv 3) pe_str (fun _ _ => rfl)) pa_nil)))
      (pss_cons (ps_dput (hu_of hr) (pv 3) pe_str (pe_c c_law_pick hr (by decide) (by rfl) (pa_cons (pv 0) (pa_cons (pe_lst (pa_cons pe_int (pa_cons pe_int (pa_cons pe_int (pa_cons pe_int (pa_cons pe_int (pa_cons pe_int (pa_cons pe_int (pa_cons pe_int pa_nil))))))))) pa_nil))) rfl)
      (pss_cons (ps_dput (hu_of hr) (pv 3) pe_str (pe_disp (pps_cons pe_str (pe_c c_law_logger_plan hr (by decide) (by rfl) (pa_cons (pv 0) (pa_cons (pv 4) pa_nil))) pps_nil) (by rfl) (by rfl) (fun z => by cases z) (by decide)) rfl)
      (pss_cons (ps_for PassesOwn.never rfl (pi_range1 (by rfl) T.f_range (pa_cons (pe_c c_law_draw hr (by decide) (by rfl) (pa_cons (pv 0) (pa_cons (pe_op op_add (pv 1) pe_int) pa_nil))) pa_nil)) (pg_name (i := 5) sc_law_plan.nd rfl (Or.inl rfl))
        (pss_cons (ps_set (i := 6) sc_law_plan.nd rfl (Or.inl rfl) (pe_lst (pa_cons pe_str (pa_cons pe_str (pa_cons pe_str (pa_cons pe_str (pa_cons pe_str (pa_cons pe_str (pa_cons pe_str (pa_cons pe_str (pa_cons pe_str (pa_cons pe_str (pa_cons pe_str (pa_cons pe_str (pa_cons pe_str (pa_cons pe_str pa_nil))))))))))))))))
        (pss_cons (ps_set (i := 7) sc_law_plan.nd rfl (Or.inl rfl) (pe_c c_law_pick hr (by decide) (by rfl) (pa_cons (pv 0) (pa_cons (pv 6) pa_nil))))
        (pss_one (ps_dput (hu_of hr) (pe_dget (hu_of hr) (pv 3) pe_str (fun _ _ => rfl)) (pv 7) (pe_c c_law_logger_plan hr (by decide) (by rfl) (pa_cons (pv 0) (pa_cons (pv 4) pa_nil))) rfl)))))
      (pss_cons (ps_for PassesOwn.never rfl (pi_range1 (by rfl) T.f_range (pa_cons (pe_c c_law_draw hr (by decide) (by rfl) (pa_cons (pv 0) (pa_cons pe_int pa_nil))) pa_nil)) (pg_name (i := 5) sc_law_plan.nd rfl (Or.inl rfl))
        (pss_cons (ps_set (i := 8) sc_law_plan.nd rfl (Or.inl rfl) (pe_c c_law_pick hr (by decide) (by rfl) (pa_cons (pv 0) (pa_cons (pe_lst (pa_cons pe_int (pa_cons pe_int (pa_cons pe_int (pa_cons pe_int (pa_cons pe_int (pa_cons pe_int pa_nil))))))) pa_nil))))
        (pss_one (ps_expr (pe_bm PySem.F.plainAttrs_list PySem.F.slot_list_append PySem.F.type_list_append mt_append (pe_dget (hu_of hr) (pv 3) pe_str (fun _ _ => rfl)) (pa_cons (pe_tup (pa_cons (pv 8) (pa_cons (pe_c c_law_pick hr (by decide) (by rfl) (pa_cons (pv 0) (pa_cons (pe_lst (pa_cons pe_str (pa_cons pe_str (pa_cons pe_str (pa_cons pe_str pa_nil))))) pa_nil))) pa_nil))) pa_nil))))))
      (pss_one (ps_ret (pv 3))))))))), ?_⟩
    refine fun p hp => ?_
    have op : ¬ onSt s l p := hs.off hp
    -- handlers
    refine ⟨_, rfl, _, rfl, ?_⟩
    refine ⟨_, _, rfl, rfl, ?_⟩
    refine ⟨s, l, _, n, rfl, hs.new hp, by omega, by omega, by omega, fun d H1 h0 h1 hs1 k1 => ?_⟩
    obtain ⟨m, rfl⟩ := Int.eq_ofNat_of_zero_le h0
    have hm : m < ha + 1 := by omega
    refine ⟨m, rfl, by omega, by omega, ?_⟩
    intro D hD
    have e1 : H1 p = some (.dK []) := k1 _ _ upd_same op
    have K1 : Kp (onSt s l) H H1 := (Kp.new hp).trans k1
    have nD : Fre H D := K1.was hs1 hD
    have oD : ¬ onSt s l D := hs.off nD
    have hpD : p ≠ D := ne_of_none e1 hD
    refine lc_draws (b := 60) (fun H' y => ∃ q h, y = .ref q ∧ HPok h ∧ h.called = none ∧ HPlanAt (fun b => Fre H b ∧ b ≠ p ∧ b ≠ D) H' q h) hD hs1 (by omega) ?_ ?_ (fun _ => rfl) ?_ ?_
    · rintro y Ha Hb _ kab ⟨q, h, e, z1, z2, z3⟩
      exact ⟨q, h, e, z1, z2, z3.kp kab fun b hb => ⟨hb, hs.off hb.1⟩⟩
    · rintro y Ha o ⟨q, h, e, z1, z2, z3⟩
      exact ⟨q, h, e, z1, z2, z3.kp (M := fun b => b = D) (Kp.at rfl) fun b hb => ⟨hb, hb.2.2⟩⟩
    · rintro j Ha Qa hj ha' ka ⟨oo, eo⟩ kk
      refine ⟨_, rfl, ?_⟩
      refine ⟨s, l, _, rfl, ha', by simp only [Bud]; omega, fun q h Hb hok hcl hat hb kb => ?_⟩
      refine kk _ Hb (hb.mono (by omega)) kb ⟨q, h, rfl, hok, hcl, hat.kp (M := fun _ => False) (Kp.same Same.rfl') fun b hb' => ⟨⟨(K1.trans ka).was ha' hb', Fre.ne hb' (ka _ _ e1 op), Fre.ne hb' eo⟩, fun z => z⟩⟩
    · intro H2 ys hys hl hf hs2 k2
      have e2 := k2 _ _ e1 op
      have K2 := K1.trans k2
      obtain ⟨hps, hds, rfl, hP, hOk, hLen⟩ : ∃ (hps : List Addr) (hds : List HP), ys = hps.map V.ref ∧ Paired (HPlanAt (fun b => Fre H b ∧ b ≠ p ∧ b ≠ D) H2) hps hds ∧ (∀ h ∈ hds, HPok h ∧ h.called = none) ∧ hds.length = ys.length := by
        clear hys hl
        induction ys with
        | nil => exact ⟨[], [], rfl, .nil, (fun h z => nomatch z), rfl⟩
        | cons y ys ih =>
          obtain ⟨q, h, rfl, z1, z2, z3⟩ := hf y (List.mem_cons_self ..)
          obtain ⟨hps, hds, rfl, i2, i3, i4⟩ := ih fun z hz => hf z (List.mem_cons_of_mem _ hz)
          refine ⟨q :: hps, h :: hds, rfl, .cons z3 i2, fun g hg => ?_, by rw [List.length_cons, List.length_cons, i4]⟩
          rcases List.mem_cons.mp hg with z | z
          · rw [z]
            exact ⟨z1, z2⟩
          · exact i3 g z
      rw [hl] at hLen
      -- words
      refine ⟨ssz rfl, fun ws hws => ?_⟩
      have nW : Fre H ws := K2.was hs2 hws
      have hpW : p ≠ ws := ne_of_none e2 hws
      have hDW : D ≠ ws := ne_of_none hys hws
      refine ⟨upd_at e2 hws, [(kS "handlers", .ref D), (kS "words", .ref ws)], rfl, Nat.le_of_ble_eq_true rfl, ?_⟩
      rw [mp1]
      -- many
      refine ⟨_, rfl, ?_⟩
      refine ⟨p, _, rfl, (by rw [← vp1 (.ref D) (.ref ws)]; exact DGet.k (k := kS "handlers") upd_same), ?_⟩
      have hys3 : upd (upd H2 ws (.lst [])) p (.dK [(kS "handlers", .ref D), (kS "words", .ref ws)]) D = some (.lst (hps.map V.ref)) := by
        rw [upd_ne (Ne.symm hpD), upd_ne hDW]
        exact hys
      refine ⟨D, _, rfl, .inl (SqL.of hys3), ?_⟩
      rw [hl]
      -- bar
      have hs3 := (hs2.new (o := .lst []) hws).upd (o := .dK [(kS "handlers", .ref D), (kS "words", .ref ws)]) op
      have e3 := upd_same (H := upd H2 ws (.lst [])) (a := p) (o := .dK [(kS "handlers", .ref D), (kS "words", .ref ws)])
      have w3 : upd (upd H2 ws (.lst [])) p (.dK [(kS "handlers", .ref D), (kS "words", .ref ws)]) ws = some (.lst []) := by rw [upd_ne (Ne.symm hpW), upd_same]
      have K3 := (K2.trans (Kp.new (o := .lst []) hws)).wr (o := .dK [(kS "handlers", .ref D), (kS "words", .ref ws)]) hp
      have hP3 : Paired (HPlanAt (fun b => Fre H b ∧ b ≠ p ∧ b ≠ D ∧ b ≠ ws) (upd (upd H2 ws (.lst [])) p (.dK [(kS "handlers", .ref D), (kS "words", .ref ws)]))) hps hds := Paired.impl hP fun a h z =>
        ((z.to (N' := fun b => Fre H b ∧ b ≠ p ∧ b ≠ D ∧ b ≠ ws) fun b hb hb2 => ⟨hb.1, hb.2.1, hb.2.2, live_ne hb2 hws⟩).kp (M := fun b => b = ws) (Kp.at rfl) fun b hb => ⟨hb, hb.2.2.2⟩).kp (M := fun b => b = p) (Kp.at rfl) fun b hb => ⟨hb, hb.2.1⟩
      generalize upd (upd H2 ws (.lst [])) p (.dK [(kS "handlers", .ref D), (kS "words", .ref ws)]) = H3 at *
      have oW : ¬ onSt s l ws := hs.off nW
      have k3 : ∀ {H' : Hp}, Kp (onSt s l) H3 H' → Paired (HPlanAt (fun b => Fre H b ∧ b ≠ p ∧ b ≠ D ∧ b ≠ ws) H') hps hds := fun kk => Paired.impl hP3 fun a h z => z.kp kk fun b hb => ⟨hb, hs.off hb.1⟩
      refine ⟨_, rfl, ssz rfl, fun q hq => ?_⟩
      refine ⟨s, q, l, _, barMenu.map V.int, rfl, hs3.new hq, by simp only [Bud]; omega, hs3.off hq, upd_same, by decide, by decide, fun x H4 hx hs4 k4 => ?_⟩
      obtain ⟨bar, hbar, rfl⟩ := List.mem_map.mp hx
      have K34 := (Kp.new (M := onSt s l) (o := .lst (barMenu.map V.int)) hq).trans k4
      have e4 := K34 _ _ e3 op
      have w4 := K34 _ _ w3 oW
      have D4 := K34 _ _ hys3 oD
      have P4 := k3 K34
      refine ⟨_, rfl, ?_⟩
      refine ⟨p, _, rfl, DPut.k (k := kS "bar") e4 (lsz rfl), ?_⟩
      rw [mp2]
      -- loggers
      refine fun lg hlg => ?_
      have hlg4 : H4 lg = none := was_none hlg
      have nL : Fre H lg := (K3.trans K34).was hs4 hlg4
      have oL : ¬ onSt s l lg := hs.off nL
      have hpL : p ≠ lg := ne_of_none e4 hlg4
      have hWL : ws ≠ lg := ne_of_none w4 hlg4
      have hDL : D ≠ lg := ne_of_none D4 hlg4
      refine ⟨_, rfl, _, rfl, ?_⟩
      refine ⟨s, l, _, m, rfl, (hs4.upd op).new hlg, by simp only [Bud]; omega, by omega, fun ra r H5 hr hra hs5 k5 => ?_⟩
      have e5 := k5 _ _ (upd_at upd_same hlg) op
      have l5 := k5 _ _ upd_same oL
      have w5 : H5 ws = some (.lst []) := k5 _ _ (by rw [upd_ne hWL, upd_ne (Ne.symm hpW)]; exact w4) oW
      have D5 : H5 D = some (.lst (hps.map V.ref)) := k5 _ _ (by rw [upd_ne hDL, upd_ne (Ne.symm hpD)]; exact D4) oD
      have P5 : Paired (HPlanAt (Inn (Fre H) p D ws lg) H5) hps hds := Paired.impl P4 fun a h z =>
        (((z.to (N' := Inn (Fre H) p D ws lg) fun b hb hb2 => ⟨hb.1, hb.2.1, hb.2.2.1, hb.2.2.2, live_ne hb2 hlg4⟩).kp (M := fun b => b = p) (N' := Inn (Fre H) p D ws lg) (Kp.at rfl) fun b hb => ⟨hb, hb.2.1⟩).kp (M := fun b => b = lg) (N' := Inn (Fre H) p D ws lg) (Kp.at rfl) fun b hb => ⟨hb, hb.2.2.2.2⟩).kp k5 fun b hb => ⟨hb, hs.off hb.1⟩
      have R5 : RowAt (Inn (Fre H) p D ws lg) H5 ra r := hra.kp (M := fun _ => False) (Kp.same Same.rfl') fun b hb => ⟨⟨(K3.trans K34).was hs4 (by
        have z := was_none hb
        rwa [upd_ne (Fre.ne hb (upd_at upd_same hlg))] at z), Fre.ne hb (upd_at upd_same hlg), Fre.ne hb (by rw [upd_ne hDL, upd_ne (Ne.symm hpD)]; exact D4), Fre.ne hb (by rw [upd_ne hWL, upd_ne (Ne.symm hpW)]; exact w4), Fre.ne hb upd_same⟩, fun z => z⟩
      refine ⟨l5, [(kS "", .ref ra)], rfl, Nat.le_of_ble_eq_true rfl, ?_⟩
      rw [mp4]
      refine ⟨_, rfl, ?_⟩
      refine ⟨p, _, rfl, DPut.k (k := kS "loggers") (by rw [upd_ne hpL]; exact e5) (lsz rfl), ?_⟩
      rw [mp3]
      have W6 : PlanW (Fre H) (L2.upd (L2.upd H5 lg (.dK [(kS "", .ref ra)])) p (.dK [(kS "handlers", .ref D), (kS "words", .ref ws), (kS "bar", .int bar), (kS "loggers", .ref lg)])) p D ws lg hps [] [("", ra)] ⟨hds, [], bar, [("", r)]⟩ := by
        have kp : Kp (fun b => b = lg ∨ b = p) H5 (L2.upd (L2.upd H5 lg (.dK [(kS "", .ref ra)])) p (.dK [(kS "handlers", .ref D), (kS "words", .ref ws), (kS "bar", .int bar), (kS "loggers", .ref lg)])) := (Kp.at (.inl rfl)).trans (Kp.at (.inr rfl))
        have hn : ∀ b, Inn (Fre H) p D ws lg b → Inn (Fre H) p D ws lg b ∧ ¬ (b = lg ∨ b = p) := fun b hb => ⟨hb, fun z => z.elim hb.2.2.2.2 hb.2.1⟩
        refine ⟨hp, nD, nW, nL, hpD, hpW, hpL, hDW, hDL, hWL, upd_same, kp _ _ D5 (fun z => z.elim hDL (Ne.symm hpD)), Paired.impl P5 fun a h z => z.kp kp hn, kp _ _ w5 (fun z => z.elim hWL (Ne.symm hpW)), .nil, by rw [upd_ne (Ne.symm hpL), upd_same]; rfl, .cons ⟨rfl, R5.kp kp hn⟩ .nil⟩
      have hs6 := ((hs5.upd (o := .dK [(kS "", .ref ra)]) oL).upd (o := .dK [(kS "handlers", .ref D), (kS "words", .ref ws), (kS "bar", .int bar), (kS "loggers", .ref lg)]) op)
      have K6 := ((((K3.trans K34).wr (o := .dK [(kS "handlers", .ref D), (kS "words", .ref ws), (kS "bar", .int bar)]) hp).wr (o := .dK []) nL).trans k5).wr (o := .dK [(kS "", .ref ra)]) nL |>.wr (o := .dK [(kS "handlers", .ref D), (kS "words", .ref ws), (kS "bar", .int bar), (kS "loggers", .ref lg)]) hp
      generalize L2.upd (L2.upd H5 lg (.dK [(kS "", .ref ra)])) p (.dK [(kS "handlers", .ref D), (kS "words", .ref ws), (kS "bar", .int bar), (kS "loggers", .ref lg)]) = H6 at *
      have O6 : PlOk lo ha ⟨hds, [], bar, [("", r)]⟩ := ⟨hOk, by show hds.length ≤ ha; omega, hbar, (fun x h => nomatch h), Nat.zero_le _, fun x h => by
        rw [List.mem_singleton.mp h]
        exact ⟨List.mem_cons_self .., by show RPok hds.length r; rw [hLen]; exact hr⟩, by simp, by simp, by show 1 ≤ lo + 1; omega⟩
      clear R5 P5 D5 w5 l5 e5 P4 D4 w4 e4 K34 k3 k4 k5 hs5 hs4 hs3 K3 hP3 hP hys3 hys e3 w3 e2 K2 k2 hs2 e1 K1 k1 hs1 hlg hlg4 hq hws hD
      refine ⟨_, rfl, _, rfl, ?_⟩
      refine ⟨_, _, rfl, rfl, ?_⟩
      refine ⟨s, l, _, _, rfl, hs6, by omega, by omega, by omega, fun d7 H7 h70 h71 hs7 k7 => ?_⟩
      obtain ⟨c, rfl⟩ := Int.eq_ofNat_of_zero_le h70
      refine ⟨c, rfl, by omega, by omega, ?_⟩
      have W7 := W6.kp k7 (N' := Fre H) fun b hb => ⟨hb, hs.off hb⟩
      refine for_range (n := c) (fun i σ' H' => i ≤ c ∧ ∃ (o5 o6 o7 : Option V) (rows : List (Str × Addr)) (lgs : List (Str × RP)), σ' = [some (.ref s), some (natV lo), some (natV ha), some (.ref p), some (natV m), o5, o6, o7, none] ∧ StAt H' s l (n + 1300 + i * 22) ∧ Kp (onSt s l) H H' ∧
        PlanW (Fre H) H' p D ws lg hps [] rows ⟨hds, [], bar, lgs⟩ ∧ PlOk i ha ⟨hds, [], bar, lgs⟩) ?_ ?_ ?_
      · exact ⟨Nat.zero_le _, _, _, _, _, _, rfl, hs7.mono (by omega), K6.trans k7, W7, ⟨O6.handlers, O6.fewH, O6.bar, O6.words, O6.fewW, O6.loggers, O6.nd, O6.root, Nat.le_refl _⟩⟩
      · rintro i σ' H8 hi ⟨_, o5, o6, o7, rows, lgs, rfl, hs8, K8, W8, O8⟩
        refine ⟨ssz rfl, fun q hq => ?_⟩
        refine ⟨_, rfl, _, rfl, ?_⟩
        have hs9 := hs8.new (o := .lst (logMenu.map V.str)) hq
        refine ⟨s, q, l, _, logMenu.map V.str, rfl, hs9, by simp only [Bud]; omega, hs8.off hq, upd_same, by decide, by decide, fun x Ha hx hsa ka => ?_⟩
        obtain ⟨nm, hnm, rfl⟩ := List.mem_map.mp hx
        have K8a := (Kp.new (M := onSt s l) (o := .lst (logMenu.map V.str)) hq).trans ka
        have Wa := W8.kp K8a (N' := Fre H) fun b hb => ⟨hb, hs.off hb⟩
        refine ⟨_, rfl, _, rfl, ?_⟩
        refine ⟨s, l, _, m, rfl, hsa, by simp only [Bud]; omega, by omega, fun ra' r' Hb hr' hra' hsb kb => ?_⟩
        have Wb := Wa.kp kb (N' := Fre H) fun b hb => ⟨hb, hs.off hb⟩
        have Rb : RowAt (Inn (Fre H) p D ws lg) Hb ra' r' := hra'.kp (M := fun _ => False) (Kp.same Same.rfl') fun b hb => ⟨⟨(K8.trans K8a).was hsa hb, Fre.ne hb Wa.at_, Fre.ne hb Wa.hsE, Fre.ne hb Wa.wsE, Fre.ne hb Wa.lgE⟩, fun z => z⟩
        have W9 := Wb.row (k := nm) Rb
        refine ⟨_, rfl, ?_⟩
        refine ⟨p, _, rfl, (by rw [← vp2 (.ref D) (.ref ws) (.int bar) (.ref lg)]; exact DGet.k (k := kS "loggers") Wb.at_), ?_⟩
        refine ⟨_, rfl, ?_⟩
        have hlen : rows.length = lgs.length := Paired.length W8.lgP
        have hl2 := O8.fewL
        refine ⟨lg, _, rfl, DPut.k (k := kS nm) Wb.lgE (by rw [List.length_map, sizeLine_eq]; simp only at hl2; omega), ?_⟩
        rw [putK_row]
        exact ⟨hi, _, _, _, _, _, rfl, (hsb.upd oL).mono (by omega), ((K8.trans K8a).trans kb).wr nL, W9, O8.row hnm (by show RPok hds.length r'; rw [hLen]; exact hr')⟩
      · rintro σ' H8 ⟨_, o5, o6, o7, rows, lgs, rfl, hs8, K8, W8, O8⟩
        have O8' := O8.lo (lo' := lo) (by omega)
        refine ⟨_, rfl, ?_⟩
        refine ⟨s, l, 3, _, rfl, hs8, by omega, by omega, by omega, fun d9 H9 h90 h91 hs9 k9 => ?_⟩
        obtain ⟨c2, rfl⟩ := Int.eq_ofNat_of_zero_le h90
        refine ⟨c2, rfl, by omega, by omega, ?_⟩
        have W9 := W8.kp k9 (N' := Fre H) fun b hb => ⟨hb, hs.off hb⟩
        refine for_range (n := c2) (fun i σ' H' => i ≤ c2 ∧ ∃ (o5 o8 : Option V) (wvs : List V) (wds : List (Int × Str)), σ' = [some (.ref s), some (natV lo), some (natV ha), some (.ref p), some (natV m), o5, o6, o7, o8] ∧ StAt H' s l (n + 2000 + i * 2) ∧ Kp (onSt s l) H H' ∧
          PlanW (Fre H) H' p D ws lg hps wvs rows ⟨hds, wds, bar, lgs⟩ ∧ wds.length = i ∧ ∀ x ∈ wds, x.1 ∈ wlMenu ∧ x.2 ∈ wxMenu) ?_ ?_ ?_
        · exact ⟨Nat.zero_le _, _, _, [], [], rfl, hs9.mono (by omega), K8.trans k9, W9, rfl, fun x h => nomatch h⟩
        · rintro i σ' Ha hi ⟨_, o5', o8', wvs, wds, rfl, hsa, Ka, Wa, la, fa⟩
          refine ⟨_, rfl, ssz rfl, fun q hq => ?_⟩
          refine ⟨s, q, l, _, wlMenu.map V.int, rfl, hsa.new hq, by simp only [Bud]; omega, hsa.off hq, upd_same, by decide, by decide, fun x Hb hx hsb kb => ?_⟩
          obtain ⟨wl, hwl, rfl⟩ := List.mem_map.mp hx
          have Kab := (Kp.new (M := onSt s l) (o := .lst (wlMenu.map V.int)) hq).trans kb
          have Wb := Wa.kp Kab (N' := Fre H) fun b hb => ⟨hb, hs.off hb⟩
          refine ⟨_, rfl, ?_⟩
          refine ⟨p, _, rfl, (by rw [← vp3 (.ref D) (.ref ws) (.int bar) (.ref lg)]; exact DGet.k (k := kS "words") Wb.at_), ?_⟩
          refine ⟨.inl ⟨rfl, _, SqL.of Wb.wsE⟩, ?_⟩
          refine ⟨_, rfl, ?_⟩
          refine ⟨_, rfl, ssz rfl, fun q2 hq2 => ?_⟩
          refine ⟨s, q2, l, _, wxMenu.map V.str, rfl, hsb.new hq2, by simp only [Bud]; omega, hsb.off hq2, upd_same, by decide, by decide, fun x Hc hx hsc kc => ?_⟩
          obtain ⟨wx, hwx, rfl⟩ := List.mem_map.mp hx
          have Kbc := (Kp.new (M := onSt s l) (o := .lst (wxMenu.map V.str)) hq2).trans kc
          have Wc := Wb.kp Kbc (N' := Fre H) fun b hb => ⟨hb, hs.off hb⟩
          refine ⟨ssz rfl, fun t ht => ?_⟩
          have Wd := Wc.kp (Kp.new (M := fun _ => False) (o := .tup [.int wl, .str wx]) ht) (N' := Fre H) fun b hb => ⟨hb, fun z => z⟩
          have hlen : wvs.length = wds.length := Paired.length Wc.wsP
          refine ⟨ws, _, _, rfl, rfl, Wd.wsE, by rw [sizeLine_eq]; omega, ?_⟩
          have nt : Fre H t := ((Ka.trans Kab).trans Kbc).was hsc ht
          have We := Wd.word (v := .ref t) (y := (wl, wx)) ⟨t, rfl, ⟨nt, Fre.ne ht Wc.at_, Fre.ne ht Wc.hsE, Fre.ne ht Wc.wsE, Fre.ne ht Wc.lgE⟩, upd_same⟩
          refine ⟨hi, _, _, _, _, rfl, ((hsc.new ht).upd oW).mono (by omega), (((Ka.trans Kab).trans Kbc).wr nt).wr nW, We, by rw [List.length_append, la]; rfl, fun x hx => ?_⟩
          rcases List.mem_append.mp hx with z | z
          · exact fa x z
          · rw [List.mem_singleton.mp z]
            exact ⟨hwl, hwx⟩
        · rintro σ' Ha ⟨_, o5', o8', wvs, wds, rfl, hsa, Ka, Wa, la, fa⟩
          refine ⟨_, rfl, ?_⟩
          exact k p ⟨hds, wds, bar, lgs⟩ Ha ⟨O8'.handlers, O8'.fewH, O8'.bar, fa, by show wds.length ≤ 2; omega, O8'.loggers, O8'.nd, O8'.root, O8'.fewL⟩ ⟨D, ws, lg, hps, wvs, rows, Wa⟩ (hsa.mono (by omega)) Ka
end
end Ry
namespace Ry
open PySem PySem.Spec PyProof.Rows L2 He RyH
open C8 (pss_cut tCut Cal Met Mak pe_c pe_mk pe_mt pe_mt0 pe_gc)
/-! ### fields -/
theorem plen {f : Str} {v : V} {fs : List (Str × V)} {n : Nat} (h : fs.length ≤ n) : (putF f v fs).length ≤ n + 1 := Nat.le_trans (length_putF f v fs) (Nat.succ_le_succ h)
abbrev hdB (y fl : Addr) (lv : Int) (fm nm : V) (tm : Str) (cl : Bool) : List (Str × V) := [("filters", .ref fl), ("yard", .ref y), ("level", .int lv), ("formatter", fm), ("name", nm), ("terminator", .str tm), ("closed", .bl cl)]
abbrev lgF (y fl : Addr) (nm : Str) (lv : Int) (pr di : Bool) (hl : Addr) (pa : V) : List (Str × V) := [("filters", .ref fl), ("yard", .ref y), ("name", .str nm), ("level", .int lv), ("propagate", .bl pr), ("disabled", .bl di), ("handlers", .ref hl), ("parent", pa)]
theorem pf_h2 (a b : V) : putF "yard" b [("filters", a)] = ([("filters", a), ("yard", b)] : List (Str × V)) := by kernel_rfl
theorem pf_h3 (a b c : V) : putF "level" c [("filters", a), ("yard", b)] = ([("filters", a), ("yard", b), ("level", c)] : List (Str × V)) := by kernel_rfl
theorem pf_h4 (a b c d : V) : putF "formatter" d [("filters", a), ("yard", b), ("level", c)] = ([("filters", a), ("yard", b), ("level", c), ("formatter", d)] : List (Str × V)) := by kernel_rfl
theorem pf_h5 (a b c d e : V) : putF "name" e [("filters", a), ("yard", b), ("level", c), ("formatter", d)] = ([("filters", a), ("yard", b), ("level", c), ("formatter", d), ("name", e)] : List (Str × V)) := by kernel_rfl
theorem pf_h6 (a b c d e f : V) : putF "terminator" f [("filters", a), ("yard", b), ("level", c), ("formatter", d), ("name", e)] = ([("filters", a), ("yard", b), ("level", c), ("formatter", d), ("name", e), ("terminator", f)] : List (Str × V)) := by kernel_rfl
theorem pf_h7 (a b c d e f g : V) : putF "closed" g [("filters", a), ("yard", b), ("level", c), ("formatter", d), ("name", e), ("terminator", f)] = ([("filters", a), ("yard", b), ("level", c), ("formatter", d), ("name", e), ("terminator", f), ("closed", g)] : List (Str × V)) := by kernel_rfl
theorem pf_h8 (a b c d e f g h : V) : putF "stream" h [("filters", a), ("yard", b), ("level", c), ("formatter", d), ("name", e), ("terminator", f), ("closed", g)] = ([("filters", a), ("yard", b), ("level", c), ("formatter", d), ("name", e), ("terminator", f), ("closed", g), ("stream", h)] : List (Str × V)) := by kernel_rfl
theorem pf_l3 (a b c : V) : putF "name" c [("filters", a), ("yard", b)] = ([("filters", a), ("yard", b), ("name", c)] : List (Str × V)) := by kernel_rfl
theorem pf_l4 (a b c d : V) : putF "level" d [("filters", a), ("yard", b), ("name", c)] = ([("filters", a), ("yard", b), ("name", c), ("level", d)] : List (Str × V)) := by kernel_rfl
theorem pf_l5 (a b c d e : V) : putF "propagate" e [("filters", a), ("yard", b), ("name", c), ("level", d)] = ([("filters", a), ("yard", b), ("name", c), ("level", d), ("propagate", e)] : List (Str × V)) := by kernel_rfl
theorem pf_l6 (a b c d e f : V) : putF "disabled" f [("filters", a), ("yard", b), ("name", c), ("level", d), ("propagate", e)] = ([("filters", a), ("yard", b), ("name", c), ("level", d), ("propagate", e), ("disabled", f)] : List (Str × V)) := by kernel_rfl
theorem pf_l7 (a b c d e f g : V) : putF "handlers" g [("filters", a), ("yard", b), ("name", c), ("level", d), ("propagate", e), ("disabled", f)] = ([("filters", a), ("yard", b), ("name", c), ("level", d), ("propagate", e), ("disabled", f), ("handlers", g)] : List (Str × V)) := by kernel_rfl
theorem pf_l8 (a b c d e f g h : V) : putF "parent" h [("filters", a), ("yard", b), ("name", c), ("level", d), ("propagate", e), ("disabled", f), ("handlers", g)] = ([("filters", a), ("yard", b), ("name", c), ("level", d), ("propagate", e), ("disabled", f), ("handlers", g), ("parent", h)] : List (Str × V)) := by kernel_rfl
abbrev lk (fs : List (Str × V)) (f : Str) : Option V := fs.lookup f
theorem csz {n : Nat} (h : Nat.ble (n + 1) 1000 = true) : n < 1000 := Nat.le_of_ble_eq_true h
/-- a class of handlers, as far as its methods ask -/
structure HCls (K : PySem.W.Frag) (C : Addr) : Prop where
  cl : Cls K C
  filters : NoAttr K C "filters"
  yard : NoAttr K C "yard"
  level : NoAttr K C "level"
  formatter : NoAttr K C "formatter"
  name : NoAttr K C "name"
  terminator : NoAttr K C "terminator"
  closed : NoAttr K C "closed"
/-- the yard's own object -/
def YIns (K : PySem.W.Frag) (H : Hp) (y : Addr) (fy : List (Str × V)) : Prop := ∃ dy, H y = some (.ins (ga K "Yard") dy fy)
/-! ### promises -/
def spFilterInit (K : PySem.W.Frag) : Sp := fun vs H Q _ => ∃ (a dx : Addr) (z : Str), vs = [.ref a, .str z] ∧ H a = some (.ins (ga K "Filter") dx []) ∧ Q .non (upd H a (.ins (ga K "Filter") dx ([("name", .str z)] : List (Str × V))))
def spFiltererInit (K : PySem.W.Frag) : Sp := fun vs H Q _ => ∃ (a C dx : Addr), vs = [.ref a] ∧ H a = some (.ins C dx []) ∧ Cls K C ∧ NoAttr K C "filters" ∧ ∀ fl, H fl = none → Q .non (upd (upd H fl (.lst [])) a (.ins C dx ([("filters", .ref fl)] : List (Str × V))))
def spAddFilter (K : PySem.W.Frag) : Sp := fun vs H Q _ => ∃ (a C dx fl o : Addr) (fs : List (Str × V)) (ps : List Addr), vs = [.ref a, .ref o] ∧ H a = some (.ins C dx fs) ∧ Cls K C ∧ NoAttr K C "filters" ∧ lk fs "filters" = some (.ref fl) ∧
  H fl = some (.lst (ps.map V.ref)) ∧ RyR.CmpV K H o ∧ (∀ z ∈ ps, RyR.CmpV K H z) ∧ o ∉ ps ∧ ps.length < 1000 ∧ Q .non (upd H fl (.lst ((ps ++ [o]).map V.ref)))
def spIsInteger : Sp := fun vs H Q _ => ∃ (i : Int), vs = [.int i] ∧ Q (.bl true) H
def spLevelOf : Sp := fun vs H Q _ => ∃ (y : Addr) (i : Int), vs = [.ref y, .int i] ∧ Q (.int i) H
def spEnrol (K : PySem.W.Frag) : Sp := fun vs H Q _ => ∃ (y mk h : Addr) (fy : List (Str × V)) (ms : List V), vs = [.ref y, .ref h] ∧ YIns K H y fy ∧ lk fy "made" = some (.ref mk) ∧ H mk = some (.lst ms) ∧ ms.length < 1000 ∧ Q .non (upd H mk (.lst (ms ++ [.ref h])))
def spHandlerInit (K : PySem.W.Frag) : Sp := fun vs H Q _ => ∃ (a C dx y mk : Addr) (fy : List (Str × V)) (ms : List V), vs = [.ref a, .ref y] ∧ H a = some (.ins C dx []) ∧ HCls K C ∧ YIns K H y fy ∧ lk fy "made" = some (.ref mk) ∧ lk fy "enrol" = none ∧ y ≠ a ∧ H mk = some (.lst ms) ∧ ms.length < 1000 ∧
  ∀ fl H', H fl = none → H' a = some (.ins C dx (hdB y fl 0 .non .non "\n" false)) → H' fl = some (.lst []) → H' mk = some (.lst (ms ++ [.ref a])) → Kp (fun b => b = a ∨ b = mk) H H' → Q .non H'
def spStreamInit (K : PySem.W.Frag) : Sp := fun vs H Q _ => ∃ (a dx y mk : Addr) (fy : List (Str × V)) (ms : List V) (st : Str), vs = [.ref a, .ref y, .str st] ∧ H a = some (.ins (ga K "StreamHandler") dx []) ∧ YIns K H y fy ∧ lk fy "made" = some (.ref mk) ∧ lk fy "enrol" = none ∧ y ≠ a ∧ H mk = some (.lst ms) ∧ ms.length < 1000 ∧
  ∀ fl H', H fl = none → H' a = some (.ins (ga K "StreamHandler") dx (hdB y fl 0 .non .non "\n" false ++ ([("stream", .str st)] : List (Str × V)))) → H' fl = some (.lst []) → H' mk = some (.lst (ms ++ [.ref a])) → Kp (fun b => b = a ∨ b = mk) H H' → Q .non H'
/-- self.level = self.yard.level_of(level) -/
def spSetLevel (K : PySem.W.Frag) : Sp := fun vs H Q _ => ∃ (a C dx y : Addr) (fs fy : List (Str × V)) (i : Int), vs = [.ref a, .int i] ∧ H a = some (.ins C dx fs) ∧ Cls K C ∧ NoAttr K C "yard" ∧ NoAttr K C "level" ∧ fs.length < 1000 ∧ lk fs "yard" = some (.ref y) ∧ YIns K H y fy ∧ lk fy "level_of" = none ∧ Q .non (upd H a (.ins C dx (putF "level" (.int i) fs)))
/-- self.f = value -/
def spSetF (K : PySem.W.Frag) (f : Str) : Sp := fun vs H Q _ => ∃ (a C dx : Addr) (fs : List (Str × V)) (v : V), vs = [.ref a, v] ∧ H a = some (.ins C dx fs) ∧ Cls K C ∧ NoAttr K C f ∧ fs.length < 1000 ∧ Q .non (upd H a (.ins C dx (putF f v fs)))
def spLoggerInit (K : PySem.W.Frag) : Sp := fun vs H Q _ => ∃ (a dx y : Addr) (nm : Str) (lv : Int), vs = [.ref a, .ref y, .str nm, .int lv] ∧ H a = some (.ins (ga K "Logger") dx []) ∧
  ∀ fl hl H', H fl = none → H hl = none → fl ≠ hl → H' a = some (.ins (ga K "Logger") dx (lgF y fl nm lv true false hl .non)) → H' fl = some (.lst []) → H' hl = some (.lst []) → Kp (fun b => b = a) H H' → Q .non H'
def spAddHandler (K : PySem.W.Frag) : Sp := fun vs H Q _ => ∃ (a dx hl o : Addr) (fs : List (Str × V)) (ps : List Addr), vs = [.ref a, .ref o] ∧ H a = some (.ins (ga K "Logger") dx fs) ∧ lk fs "handlers" = some (.ref hl) ∧
  H hl = some (.lst (ps.map V.ref)) ∧ RyR.CmpV K H o ∧ (∀ z ∈ ps, RyR.CmpV K H z) ∧ o ∉ ps ∧ ps.length < 1000 ∧ Q .non (upd H hl (.lst ((ps ++ [o]).map V.ref)))
section
variable {P : Program} {w : World} {K : PySem.W.Frag} {mg : Str → Option Value} {base : Heap}
theorem sc_Filter_init : FnScope ["self", "name"] ["self", "name"] (defScope s_Filter_init) := ⟨rfl, rfl, rfl, by decide +kernel, rfl, by decide +kernel, by decide +kernel⟩
theorem fn_Filter_init (T : Txt w K mg) : ∃ fd, FnOk P w K mg base CX0 1 (ma K (ga K "Filter") "__init__") fd ["self", "name"] (spFilterInit K) ∧ FunD K "__init__" "Filter.__init__" (defArgs s_Filter_init) (defBody s_Filter_init) (defScope s_Filter_init) (He.DefD.dvs K d_Filter_init) [] (ma K (ga K "Filter") "__init__") fd := by
  obtain ⟨fd, F⟩ := T.df_Filter_init
  refine ⟨fd, F.ok sc_Filter_init (fun vs H Q E h => ?_) (fun cdv A outer s H vs Q E hr h => ?_), F⟩
  · obtain ⟨a, dx, z, rfl, _⟩ := h
    rfl
  · obtain ⟨a, dx, z, rfl, ha, k⟩ := h
    refine ⟨_, PSs.nox (pss_one (ps_fld (pv 0) (pv 1) rfl)), ?_⟩
    exact ⟨_, rfl, _, rfl, a, _, dx, _, rfl, ha, T.cl_Filter, T.no_Filter_name, csz rfl, k⟩
theorem sc_Filterer_init : FnScope ["self"] ["self"] (defScope s_Filterer_init) := ⟨rfl, rfl, rfl, by decide +kernel, rfl, by decide +kernel, by decide +kernel⟩
theorem fn_Filterer_init (T : Txt w K mg) : ∃ fd, FnOk P w K mg base CX0 1 (ma K (ga K "Filterer") "__init__") fd ["self"] (spFiltererInit K) ∧ FunD K "__init__" "Filterer.__init__" (defArgs s_Filterer_init) (defBody s_Filterer_init) (defScope s_Filterer_init) (He.DefD.dvs K d_Filterer_init) [] (ma K (ga K "Filterer") "__init__") fd := by
  obtain ⟨fd, F⟩ := T.df_Filterer_init
  refine ⟨fd, F.ok sc_Filterer_init (fun vs H Q E h => ?_) (fun cdv A outer s H vs Q E hr h => ?_), F⟩
  · obtain ⟨a, C, dx, rfl, _⟩ := h
    rfl
  · obtain ⟨a, C, dx, rfl, ha, hc, hf, k⟩ := h
    refine ⟨_, PSs.nox (pss_one (ps_fld (pv 0) (pe_lst pa_nil) rfl)), ?_⟩
    exact ⟨ssz rfl, fun fl hfl => ⟨_, rfl, a, _, dx, _, rfl, upd_at ha hfl, hc, hf, csz rfl, k fl hfl⟩⟩
theorem sc_Filterer_addFilter : FnScope ["self", "one"] ["self", "one"] (defScope s_Filterer_addFilter) := ⟨rfl, rfl, rfl, by decide +kernel, rfl, by decide +kernel, by decide +kernel⟩
theorem fn_Filterer_addFilter (T : Txt w K mg) : ∃ fd, FnOk P w K mg base CX0 1 (ma K (ga K "Filterer") "addFilter") fd ["self", "one"] (spAddFilter K) ∧ FunD K "addFilter" "Filterer.addFilter" (defArgs s_Filterer_addFilter) (defBody s_Filterer_addFilter) (defScope s_Filterer_addFilter) (He.DefD.dvs K d_Filterer_addFilter) [] (ma K (ga K "Filterer") "addFilter") fd := by
  obtain ⟨fd, F⟩ := T.df_Filterer_addFilter
  refine ⟨fd, F.ok sc_Filterer_addFilter (fun vs H Q E h => ?_) (fun cdv A outer s H vs Q E hr h => ?_), F⟩
  · obtain ⟨a, C, dx, fl, o, fs, ps, rfl, _⟩ := h
    rfl
  · obtain ⟨a, C, dx, fl, o, fs, ps, rfl, ha, hc, hf, hl, efl, co, cps, ho, len, k⟩ := h
    refine ⟨_, PSs.nox (pss_one (ps_if (pt_cmpR (RyR.op_notInI hr.units) (pv 1) (pe_fld (pv 0) rfl) rfl)
        (pss_one (ps_expr (pe_bm PySem.F.plainAttrs_list PySem.F.slot_list_append PySem.F.type_list_append mt_append (pe_fld (pv 0) rfl) (pa_cons (pv 1) pa_nil))))
        pss_nil)), ?_⟩
    refine ⟨_, rfl, _, rfl, a, C, dx, fs, _, rfl, ha, hc, hf, hl, ?_⟩
    refine ⟨fl, o, ps, rfl, rfl, SqL.of efl, co, cps, _, rfl, ?_⟩
    rw [if_pos rfl, decide_eq_false ho]
    refine iteT ?_
    refine ⟨_, rfl, a, C, dx, fs, _, rfl, ha, hc, hf, hl, .inl ⟨rfl, _, SqL.of efl⟩, ?_⟩
    refine ⟨_, rfl, fl, _, _, rfl, rfl, efl, by rw [List.length_map, sizeLine_eq]; omega, ?_⟩
    rw [List.map_append] at k
    exact k
theorem sc_is_integer : FnScope ["thing"] ["thing"] (defScope s_is_integer) := ⟨rfl, rfl, rfl, by decide +kernel, rfl, by decide +kernel, by decide +kernel⟩
theorem cal_is_integer (T : Txt w K mg) : Cal P w K mg base 1 "is_integer" (spIsInteger) [] := by
  obtain ⟨fd, F⟩ := T.df_is_integer
  refine ⟨_, fd, ["thing"], [], F.ok sc_is_integer (fun vs H Q E h => ?_) (fun cdv A outer s H vs Q E hr h => ?_), T.m_is_integer, F.kp, F.bindsN (fun _ _ _ _ _ _ us hl => match us, hl with | [_], _ => rfl), .nil⟩
  · obtain ⟨i, rfl, _⟩ := h
    rfl
  · obtain ⟨i, rfl, k⟩ := h
    refine ⟨_, PSs.nox (pss_one (ps_ret (pe_and (pe_callB (id := "isinstance") call_isi (by rfl) T.f_isinstance (by decide +kernel) (pa_cons (pv 0) (pa_cons (pe_bltn (v := .ty "int") (by rfl) T.f_int (by decide +kernel) rfl) pa_nil))) (pe_one (pe_not (pe_callB (id := "isinstance") call_isi (by rfl) T.f_isinstance (by decide +kernel) (pa_cons (pv 0) (pa_cons (pe_bltn (v := .ty "bool") (by rfl) T.f_bool (by decide +kernel) rfl) pa_nil)))))))), ?_⟩
    refine ⟨_, rfl, ?_⟩
    refine ⟨_, _, _, _, _, rfl, .ty _, .base (.int i), kit_ty (show kitB "int" "int" = some true by decide +kernel), ?_⟩
    refine ⟨_, rfl, ?_⟩
    refine iteT ?_
    refine ⟨_, rfl, ?_⟩
    refine ⟨_, _, _, _, _, rfl, .ty _, .base (.int i), kit_ty (show kitB "int" "bool" = some false by decide +kernel), ?_⟩
    exact ⟨_, rfl, k⟩
end
end Ry
namespace Ry
open PySem PySem.Spec PyProof.Rows L2 He RyH
open C8 (pss_cut tCut Cal Met Mak pe_c pe_mk pe_mt pe_mt0 pe_gc)
section
variable {P : Program} {w : World} {K : PySem.W.Frag} {mg : Str → Option Value} {base : Heap}
theorem YIns.upd {H : Hp} {y p : Addr} {o : HO} {fy : List (Str × V)} (h : YIns K H y fy) (hp : y ≠ p) : YIns K (L2.upd H p o) y fy := by
  obtain ⟨dy, e⟩ := h
  exact ⟨dy, by rw [upd_ne hp]; exact e⟩
theorem mk_Filter (T : Txt w K mg) : Mak P w K mg base 1 "Filter" (ga K "Filter") (spFilterInit K) [] := by
  obtain ⟨fd, f, F⟩ := fn_Filter_init (P := P) (base := base) T
  obtain ⟨ds, hV, hB⟩ := F.binds1 (ps := ["self", "name"]) 2 1 (fun z => nomatch z) rfl (fun _ _ _ _ _ _ _ us its h1 h2 => match us, its, h1, h2 with | [_, _], [_], _, _ => ⟨_, rfl, rfl⟩)
  refine ⟨_, fd, _, _, T.mk_Filter, ?_, T.m_Filter, hB, hV⟩
  exact f
theorem sc_Yard_level_of : FnScope ["self", "level"] ["self", "level"] (defScope s_Yard_level_of) := ⟨rfl, rfl, rfl, by decide +kernel, rfl, by decide +kernel, by decide +kernel⟩
theorem fn_Yard_level_of (T : Txt w K mg) : ∃ fd, FnOk P w K mg base CX0 2 (ma K (ga K "Yard") "level_of") fd ["self", "level"] (spLevelOf) ∧ FunD K "level_of" "Yard.level_of" (defArgs s_Yard_level_of) (defBody s_Yard_level_of) (defScope s_Yard_level_of) (He.DefD.dvs K d_Yard_level_of) [] (ma K (ga K "Yard") "level_of") fd := by
  obtain ⟨fd, F⟩ := T.df_Yard_level_of
  have c_is_integer := cal_is_integer (P := P) (base := base) T
  refine ⟨fd, F.ok sc_Yard_level_of (fun vs H Q E h => ?_) (fun cdv A outer s H vs Q E hr h => ?_), F⟩
  · obtain ⟨_, _, rfl, _⟩ := h
    rfl
  · obtain ⟨y, i, rfl, k⟩ := h
    refine ⟨_, PSs.nox (pss_cons (ps_if (pt_val (pe_c c_is_integer hr (by decide) (by rfl) (pa_cons (pv 1) pa_nil)))
        (pss_one (ps_ret (pv 1)))
        pss_nil)
      (pss_cut (ps_if (PW.pt (pw_and (pt_val (pe_callB (id := "isinstance") call_isi (by rfl) T.f_isinstance (by decide +kernel) (pa_cons (pv 1) (pa_cons (pe_bltn (v := .ty "str") (by rfl) T.f_str (by decide +kernel) rfl) pa_nil)))) (pw_and1 (pt_cmp (pc_din (hu_of hr) (pv 1) (pe_fld (pv 0) rfl)) rfl))))
        (pss_one (ps_ret (pe_dget (hu_of hr) (pe_fld (pv 0) rfl) (pv 1) (fun _ _ => rfl))))
        pss_nil)
      (pss_one ps_never))), ?_⟩
    exact ⟨_, rfl, i, rfl, _, rfl, iteT ⟨_, rfl, k⟩⟩
theorem sc_Yard_enrol : FnScope ["self", "handler"] ["self", "handler"] (defScope s_Yard_enrol) := ⟨rfl, rfl, rfl, by decide +kernel, rfl, by decide +kernel, by decide +kernel⟩
theorem fn_Yard_enrol (T : Txt w K mg) : ∃ fd, FnOk P w K mg base CX0 1 (ma K (ga K "Yard") "enrol") fd ["self", "handler"] (spEnrol K) ∧ FunD K "enrol" "Yard.enrol" (defArgs s_Yard_enrol) (defBody s_Yard_enrol) (defScope s_Yard_enrol) (He.DefD.dvs K d_Yard_enrol) [] (ma K (ga K "Yard") "enrol") fd := by
  obtain ⟨fd, F⟩ := T.df_Yard_enrol
  refine ⟨fd, F.ok sc_Yard_enrol (fun vs H Q E h => ?_) (fun cdv A outer s H vs Q E hr h => ?_), F⟩
  · obtain ⟨_, _, _, _, _, rfl, _⟩ := h
    rfl
  · obtain ⟨y, mk, h, fy, ms, rfl, ⟨dy, hy⟩, hmk, emk, len, k⟩ := h
    refine ⟨_, PSs.nox (pss_one (ps_expr (pe_bm PySem.F.plainAttrs_list PySem.F.slot_list_append PySem.F.type_list_append mt_append (pe_fld (pv 0) rfl) (pa_cons (pv 1) pa_nil)))), ?_⟩
    exact ⟨_, rfl, y, _, dy, fy, _, rfl, hy, T.cl_Yard, T.no_Yard_made, hmk, .inl ⟨rfl, _, SqL.of emk⟩, _, rfl, mk, _, _, rfl, rfl, emk, by rw [sizeLine_eq]; omega, k⟩
theorem met_Yard_level_of (T : Txt w K mg) : Met P w K mg base 2 (ga K "Yard") "level_of" (spLevelOf) [] := by
  obtain ⟨fd, f, F⟩ := fn_Yard_level_of (P := P) (base := base) T
  have hB : Binds K fd ["self", "level"] [] := F.bindsN (fun _ _ _ _ _ _ us hl => match us, hl with | [_, _], _ => rfl)
  have hV : Vals [] ([] : List Value) := .nil
  refine ⟨_, fd, _, _, T.cl_Yard, T.me_Yard_level_of, ?_, hB, hV⟩
  exact f
theorem met_Yard_enrol (T : Txt w K mg) : Met P w K mg base 1 (ga K "Yard") "enrol" (spEnrol K) [] := by
  obtain ⟨fd, f, F⟩ := fn_Yard_enrol (P := P) (base := base) T
  have hB : Binds K fd ["self", "handler"] [] := F.bindsN (fun _ _ _ _ _ _ us hl => match us, hl with | [_, _], _ => rfl)
  have hV : Vals [] ([] : List Value) := .nil
  refine ⟨_, fd, _, _, T.cl_Yard, T.me_Yard_enrol, ?_, hB, hV⟩
  exact f
theorem sc_Handler_init : FnScope ["self", "yard"] ["self", "yard"] (defScope s_Handler_init) := ⟨rfl, rfl, rfl, by decide +kernel, rfl, by decide +kernel, by decide +kernel⟩
theorem fn_Handler_init (T : Txt w K mg) : ∃ fd, FnOk P w K mg base CX0 2 (ma K (ga K "Handler") "__init__") fd ["self", "yard"] (spHandlerInit K) ∧ FunD K "__init__" "Handler.__init__" (defArgs s_Handler_init) (defBody s_Handler_init) (defScope s_Handler_init) (He.DefD.dvs K d_Handler_init) [] (ma K (ga K "Handler") "__init__") fd := by
  obtain ⟨fd, F⟩ := T.df_Handler_init
  have c_Yard_enrol := met_Yard_enrol (P := P) (base := base) T
  obtain ⟨fd0, f_Filterer_init, FF⟩ := fn_Filterer_init (P := P) (base := base) T
  have b_Filterer_init : Binds K fd0 ["self"] [] := FF.bindsN (fun _ _ _ _ _ _ us hl => match us, hl with | [_], _ => rfl)
  refine ⟨fd, F.ok sc_Handler_init (fun vs H Q E h => ?_) (fun cdv A outer s H vs Q E hr h => ?_), F⟩
  · obtain ⟨_, _, _, _, _, _, _, rfl, _⟩ := h
    rfl
  · obtain ⟨a, C, dx, y, mk, fy, ms, rfl, ha, hc, hy, hmk, hen, hya, emk, len, k⟩ := h
    refine ⟨_, PSs.nox (pss_cons (ps_expr (pe_cfn (pe_gc (by rfl) (T.gv_Filterer)) T.cf_Filterer_init f_Filterer_init (hr.mono (by decide)) b_Filterer_init .nil (C8.pass0 (E := C8.E0)) (pa_cons (pv 0) pa_nil)))
      (pss_cons (ps_fld (pv 0) (pv 1) rfl)
      (pss_cons (ps_fld (pv 0) pe_int rfl)
      (pss_cons (ps_fld (pv 0) pe_non rfl)
      (pss_cons (ps_fld (pv 0) pe_non rfl)
      (pss_cons (ps_fld (pv 0) pe_str rfl)
      (pss_cons (ps_fld (pv 0) pe_bl rfl)
      (pss_one (ps_expr (pe_mt c_Yard_enrol hr (by decide) (pv 1) (pa_cons (pv 0) pa_nil))))))))))), ?_⟩
    refine ⟨rfl, _, rfl, a, C, dx, rfl, ha, hc.cl, hc.filters, fun fl hfl => ?_⟩
    have hfa : fl ≠ a := Ne.symm (ne_of_none ha hfl)
    refine ⟨_, rfl, _, rfl, a, C, dx, _, rfl, upd_same, hc.cl, hc.yard, csz rfl, ?_⟩
    rw [upd_upd, pf_h2]
    refine ⟨_, rfl, a, C, dx, _, rfl, upd_same, hc.cl, hc.level, csz rfl, ?_⟩
    rw [upd_upd, pf_h3]
    refine ⟨_, rfl, a, C, dx, _, rfl, upd_same, hc.cl, hc.formatter, csz rfl, ?_⟩
    rw [upd_upd, pf_h4]
    refine ⟨_, rfl, a, C, dx, _, rfl, upd_same, hc.cl, hc.name, csz rfl, ?_⟩
    rw [upd_upd, pf_h5]
    refine ⟨_, rfl, a, C, dx, _, rfl, upd_same, hc.cl, hc.terminator, csz rfl, ?_⟩
    rw [upd_upd, pf_h6]
    refine ⟨_, rfl, a, C, dx, _, rfl, upd_same, hc.cl, hc.closed, csz rfl, ?_⟩
    rw [upd_upd, pf_h7]
    obtain ⟨dy, ey⟩ := hy
    have hyf : y ≠ fl := ne_of_none ey hfl
    have hmf : mk ≠ fl := ne_of_none emk hfl
    have hma : mk ≠ a := ne_of emk ha (fun z => nomatch z)
    refine ⟨_, rfl, y, dy, fy, rfl, by rw [upd_ne hya, upd_ne hyf]; exact ey, hen, ?_⟩
    refine ⟨_, rfl, y, mk, a, fy, ms, rfl, ⟨dy, by rw [upd_ne hya, upd_ne hyf]; exact ey⟩, hmk, by rw [upd_ne hma, upd_ne hmf]; exact emk, len, ?_⟩
    refine k fl _ hfl (by rw [upd_ne (Ne.symm hma), upd_same]) (by rw [upd_ne (Ne.symm hmf), upd_ne hfa, upd_same]) upd_same ?_
    exact ((Kp.new hfl).trans (Kp.at (.inl rfl))).trans (Kp.at (.inr rfl))
theorem hc_StreamHandler (T : Txt w K mg) : HCls K (ga K "StreamHandler") := ⟨T.cl_StreamHandler, T.no_StreamHandler_filters, T.no_StreamHandler_yard, T.no_StreamHandler_level, T.no_StreamHandler_formatter, T.no_StreamHandler_name, T.no_StreamHandler_terminator, T.no_StreamHandler_closed⟩
theorem hc_NullHandler (T : Txt w K mg) : HCls K (ga K "NullHandler") := ⟨T.cl_NullHandler, T.no_NullHandler_filters, T.no_NullHandler_yard, T.no_NullHandler_level, T.no_NullHandler_formatter, T.no_NullHandler_name, T.no_NullHandler_terminator, T.no_NullHandler_closed⟩
theorem sc_StreamHandler_init : FnScope ["self", "yard", "stream"] ["self", "yard", "stream"] (defScope s_StreamHandler_init) := ⟨rfl, rfl, rfl, by decide +kernel, rfl, by decide +kernel, by decide +kernel⟩
theorem fn_StreamHandler_init (T : Txt w K mg) : ∃ fd, FnOk P w K mg base CX0 3 (ma K (ga K "StreamHandler") "__init__") fd ["self", "yard", "stream"] (spStreamInit K) ∧ FunD K "__init__" "StreamHandler.__init__" (defArgs s_StreamHandler_init) (defBody s_StreamHandler_init) (defScope s_StreamHandler_init) (He.DefD.dvs K d_StreamHandler_init) [] (ma K (ga K "StreamHandler") "__init__") fd := by
  obtain ⟨fd, F⟩ := T.df_StreamHandler_init
  obtain ⟨fd0, f_Handler_init, FF⟩ := fn_Handler_init (P := P) (base := base) T
  have b_Handler_init : Binds K fd0 ["self", "yard"] [] := FF.bindsN (fun _ _ _ _ _ _ us hl => match us, hl with | [_, _], _ => rfl)
  refine ⟨fd, F.ok sc_StreamHandler_init (fun vs H Q E h => ?_) (fun cdv A outer s H vs Q E hr h => ?_), F⟩
  · obtain ⟨_, _, _, _, _, _, _, rfl, _⟩ := h
    rfl
  · obtain ⟨a, dx, y, mk, fy, ms, st, rfl, ha, hy, hmk, hen, hya, emk, len, k⟩ := h
    refine ⟨_, PSs.nox (pss_cons (ps_expr (pe_cfn (pe_gc (by rfl) (T.gv_Handler)) T.cf_Handler_init f_Handler_init (hr.mono (by decide)) b_Handler_init .nil (C8.pass0 (E := C8.E0)) (pa_cons (pv 0) (pa_cons (pv 1) pa_nil))))
      (pss_one (ps_fld (pv 0) (pv 2) rfl))), ?_⟩
    refine ⟨rfl, _, rfl, _, rfl, a, _, dx, y, mk, fy, ms, rfl, ha, hc_StreamHandler T, hy, hmk, hen, hya, emk, len, fun fl H' hfl e1 e2 e3 kk => ?_⟩
    have hfa : fl ≠ a := Ne.symm (ne_of_none ha hfl)
    have hma : mk ≠ a := ne_of emk ha (fun z => nomatch z)
    refine ⟨_, rfl, _, rfl, a, _, dx, _, rfl, e1, T.cl_StreamHandler, T.no_StreamHandler_stream, csz rfl, ?_⟩
    rw [pf_h8]
    exact k fl _ hfl upd_same (by rw [upd_ne hfa]; exact e2) (by rw [upd_ne hma]; exact e3) (kk.trans (Kp.at (.inl rfl)))
theorem mk_StreamHandler (T : Txt w K mg) : Mak P w K mg base 3 "StreamHandler" (ga K "StreamHandler") (spStreamInit K) [] := by
  obtain ⟨fd, f, F⟩ := fn_StreamHandler_init (P := P) (base := base) T
  obtain ⟨ds, hV, hB⟩ := F.binds1 (ps := ["self", "yard", "stream"]) 3 1 (fun z => nomatch z) rfl (fun _ _ _ _ _ _ _ us its h1 h2 => match us, its, h1, h2 with | [_, _, _], [_], _, _ => ⟨_, rfl, rfl⟩)
  refine ⟨_, fd, _, _, T.mk_StreamHandler, ?_, T.m_StreamHandler, hB, hV⟩
  exact f
theorem mk_NullHandler (T : Txt w K mg) : Mak P w K mg base 2 "NullHandler" (ga K "NullHandler") (spHandlerInit K) [] := by
  obtain ⟨fd, f, F⟩ := fn_Handler_init (P := P) (base := base) T
  have hB : Binds K fd ["self", "yard"] [] := F.bindsN (fun _ _ _ _ _ _ us hl => match us, hl with | [_, _], _ => rfl)
  have hV : Vals [] ([] : List Value) := .nil
  refine ⟨_, fd, _, _, T.mk_NullHandler, ?_, T.m_NullHandler, hB, hV⟩
  rw [T.in_NullHandler_init]
  exact f
theorem sc_Handler_setLevel : FnScope ["self", "level"] ["self", "level"] (defScope s_Handler_setLevel) := ⟨rfl, rfl, rfl, by decide +kernel, rfl, by decide +kernel, by decide +kernel⟩
theorem fn_Handler_setLevel (T : Txt w K mg) : ∃ fd, FnOk P w K mg base CX0 3 (ma K (ga K "Handler") "setLevel") fd ["self", "level"] (spSetLevel K) ∧ FunD K "setLevel" "Handler.setLevel" (defArgs s_Handler_setLevel) (defBody s_Handler_setLevel) (defScope s_Handler_setLevel) (He.DefD.dvs K d_Handler_setLevel) [] (ma K (ga K "Handler") "setLevel") fd := by
  obtain ⟨fd, F⟩ := T.df_Handler_setLevel
  have c_Yard_level_of := met_Yard_level_of (P := P) (base := base) T
  refine ⟨fd, F.ok sc_Handler_setLevel (fun vs H Q E h => ?_) (fun cdv A outer s H vs Q E hr h => ?_), F⟩
  · obtain ⟨_, _, _, _, _, _, _, rfl, _⟩ := h
    rfl
  · obtain ⟨a, C, dx, y, fs, fy, i, rfl, ha, hc, hy, hl, len, hly, hY, hlo, k⟩ := h
    refine ⟨_, PSs.nox (pss_one (ps_fld (pv 0) (pe_mt c_Yard_level_of hr (by decide) (pe_fld (pv 0) rfl) (pa_cons (pv 1) pa_nil)) rfl)), ?_⟩
    exact ⟨_, rfl, a, C, dx, fs, _, rfl, ha, hc, hy, hly, by obtain ⟨dy, ey⟩ := hY; exact ⟨y, dy, fy, rfl, ey, hlo, _, rfl, y, i, rfl, _, rfl, a, C, dx, fs, rfl, ha, hc, hl, len, k⟩⟩
theorem sc_Logger_setLevel : FnScope ["self", "level"] ["self", "level"] (defScope s_Logger_setLevel) := ⟨rfl, rfl, rfl, by decide +kernel, rfl, by decide +kernel, by decide +kernel⟩
theorem fn_Logger_setLevel (T : Txt w K mg) : ∃ fd, FnOk P w K mg base CX0 3 (ma K (ga K "Logger") "setLevel") fd ["self", "level"] (spSetLevel K) ∧ FunD K "setLevel" "Logger.setLevel" (defArgs s_Logger_setLevel) (defBody s_Logger_setLevel) (defScope s_Logger_setLevel) (He.DefD.dvs K d_Logger_setLevel) [] (ma K (ga K "Logger") "setLevel") fd := by
  obtain ⟨fd, F⟩ := T.df_Logger_setLevel
  have c_Yard_level_of := met_Yard_level_of (P := P) (base := base) T
  refine ⟨fd, F.ok sc_Logger_setLevel (fun vs H Q E h => ?_) (fun cdv A outer s H vs Q E hr h => ?_), F⟩
  · obtain ⟨_, _, _, _, _, _, _, rfl, _⟩ := h
    rfl
  · obtain ⟨a, C, dx, y, fs, fy, i, rfl, ha, hc, hy, hl, len, hly, hY, hlo, k⟩ := h
    refine ⟨_, PSs.nox (pss_one (ps_fld (pv 0) (pe_mt c_Yard_level_of hr (by decide) (pe_fld (pv 0) rfl) (pa_cons (pv 1) pa_nil)) rfl)), ?_⟩
    exact ⟨_, rfl, a, C, dx, fs, _, rfl, ha, hc, hy, hly, by obtain ⟨dy, ey⟩ := hY; exact ⟨y, dy, fy, rfl, ey, hlo, _, rfl, y, i, rfl, _, rfl, a, C, dx, fs, rfl, ha, hc, hl, len, k⟩⟩
theorem sc_Handler_setFormatter : FnScope ["self", "formatter"] ["self", "formatter"] (defScope s_Handler_setFormatter) := ⟨rfl, rfl, rfl, by decide +kernel, rfl, by decide +kernel, by decide +kernel⟩
theorem fn_Handler_setFormatter (T : Txt w K mg) : ∃ fd, FnOk P w K mg base CX0 1 (ma K (ga K "Handler") "setFormatter") fd ["self", "formatter"] (spSetF K "formatter") ∧ FunD K "setFormatter" "Handler.setFormatter" (defArgs s_Handler_setFormatter) (defBody s_Handler_setFormatter) (defScope s_Handler_setFormatter) (He.DefD.dvs K d_Handler_setFormatter) [] (ma K (ga K "Handler") "setFormatter") fd := by
  obtain ⟨fd, F⟩ := T.df_Handler_setFormatter
  refine ⟨fd, F.ok sc_Handler_setFormatter (fun vs H Q E h => ?_) (fun cdv A outer s H vs Q E hr h => ?_), F⟩
  · obtain ⟨_, _, _, _, _, rfl, _⟩ := h
    rfl
  · obtain ⟨a, C, dx, fs, v, rfl, ha, hc, hf, len, k⟩ := h
    refine ⟨_, PSs.nox (pss_one (ps_fld (pv 0) (pv 1) rfl)), ?_⟩
    exact ⟨_, rfl, _, rfl, a, C, dx, fs, rfl, ha, hc, hf, len, k⟩
theorem sc_Handler_setTerminator : FnScope ["self", "text"] ["self", "text"] (defScope s_Handler_setTerminator) := ⟨rfl, rfl, rfl, by decide +kernel, rfl, by decide +kernel, by decide +kernel⟩
theorem fn_Handler_setTerminator (T : Txt w K mg) : ∃ fd, FnOk P w K mg base CX0 1 (ma K (ga K "Handler") "setTerminator") fd ["self", "text"] (spSetF K "terminator") ∧ FunD K "setTerminator" "Handler.setTerminator" (defArgs s_Handler_setTerminator) (defBody s_Handler_setTerminator) (defScope s_Handler_setTerminator) (He.DefD.dvs K d_Handler_setTerminator) [] (ma K (ga K "Handler") "setTerminator") fd := by
  obtain ⟨fd, F⟩ := T.df_Handler_setTerminator
  refine ⟨fd, F.ok sc_Handler_setTerminator (fun vs H Q E h => ?_) (fun cdv A outer s H vs Q E hr h => ?_), F⟩
  · obtain ⟨_, _, _, _, _, rfl, _⟩ := h
    rfl
  · obtain ⟨a, C, dx, fs, v, rfl, ha, hc, hf, len, k⟩ := h
    refine ⟨_, PSs.nox (pss_one (ps_fld (pv 0) (pv 1) rfl)), ?_⟩
    exact ⟨_, rfl, _, rfl, a, C, dx, fs, rfl, ha, hc, hf, len, k⟩
theorem sc_Logger_setPropagate : FnScope ["self", "flag"] ["self", "flag"] (defScope s_Logger_setPropagate) := ⟨rfl, rfl, rfl, by decide +kernel, rfl, by decide +kernel, by decide +kernel⟩
theorem fn_Logger_setPropagate (T : Txt w K mg) : ∃ fd, FnOk P w K mg base CX0 1 (ma K (ga K "Logger") "setPropagate") fd ["self", "flag"] (spSetF K "propagate") ∧ FunD K "setPropagate" "Logger.setPropagate" (defArgs s_Logger_setPropagate) (defBody s_Logger_setPropagate) (defScope s_Logger_setPropagate) (He.DefD.dvs K d_Logger_setPropagate) [] (ma K (ga K "Logger") "setPropagate") fd := by
  obtain ⟨fd, F⟩ := T.df_Logger_setPropagate
  refine ⟨fd, F.ok sc_Logger_setPropagate (fun vs H Q E h => ?_) (fun cdv A outer s H vs Q E hr h => ?_), F⟩
  · obtain ⟨_, _, _, _, _, rfl, _⟩ := h
    rfl
  · obtain ⟨a, C, dx, fs, v, rfl, ha, hc, hf, len, k⟩ := h
    refine ⟨_, PSs.nox (pss_one (ps_fld (pv 0) (pv 1) rfl)), ?_⟩
    exact ⟨_, rfl, _, rfl, a, C, dx, fs, rfl, ha, hc, hf, len, k⟩
theorem sc_Logger_setDisabled : FnScope ["self", "flag"] ["self", "flag"] (defScope s_Logger_setDisabled) := ⟨rfl, rfl, rfl, by decide +kernel, rfl, by decide +kernel, by decide +kernel⟩
theorem fn_Logger_setDisabled (T : Txt w K mg) : ∃ fd, FnOk P w K mg base CX0 1 (ma K (ga K "Logger") "setDisabled") fd ["self", "flag"] (spSetF K "disabled") ∧ FunD K "setDisabled" "Logger.setDisabled" (defArgs s_Logger_setDisabled) (defBody s_Logger_setDisabled) (defScope s_Logger_setDisabled) (He.DefD.dvs K d_Logger_setDisabled) [] (ma K (ga K "Logger") "setDisabled") fd := by
  obtain ⟨fd, F⟩ := T.df_Logger_setDisabled
  refine ⟨fd, F.ok sc_Logger_setDisabled (fun vs H Q E h => ?_) (fun cdv A outer s H vs Q E hr h => ?_), F⟩
  · obtain ⟨_, _, _, _, _, rfl, _⟩ := h
    rfl
  · obtain ⟨a, C, dx, fs, v, rfl, ha, hc, hf, len, k⟩ := h
    refine ⟨_, PSs.nox (pss_one (ps_fld (pv 0) (pv 1) rfl)), ?_⟩
    exact ⟨_, rfl, _, rfl, a, C, dx, fs, rfl, ha, hc, hf, len, k⟩
theorem met_StreamHandler_setLevel (T : Txt w K mg) : Met P w K mg base 3 (ga K "StreamHandler") "setLevel" (spSetLevel K) [] := by
  obtain ⟨fd, f, F⟩ := fn_Handler_setLevel (P := P) (base := base) T
  have hB : Binds K fd ["self", "level"] [] := F.bindsN (fun _ _ _ _ _ _ us hl => match us, hl with | [_, _], _ => rfl)
  have hV : Vals [] ([] : List Value) := .nil
  refine ⟨_, fd, _, _, T.cl_StreamHandler, T.me_StreamHandler_setLevel, ?_, hB, hV⟩
  rw [T.in_StreamHandler_setLevel]
  exact f
theorem met_StreamHandler_setFormatter (T : Txt w K mg) : Met P w K mg base 1 (ga K "StreamHandler") "setFormatter" (spSetF K "formatter") [] := by
  obtain ⟨fd, f, F⟩ := fn_Handler_setFormatter (P := P) (base := base) T
  have hB : Binds K fd ["self", "formatter"] [] := F.bindsN (fun _ _ _ _ _ _ us hl => match us, hl with | [_, _], _ => rfl)
  have hV : Vals [] ([] : List Value) := .nil
  refine ⟨_, fd, _, _, T.cl_StreamHandler, T.me_StreamHandler_setFormatter, ?_, hB, hV⟩
  rw [T.in_StreamHandler_setFormatter]
  exact f
theorem met_StreamHandler_setTerminator (T : Txt w K mg) : Met P w K mg base 1 (ga K "StreamHandler") "setTerminator" (spSetF K "terminator") [] := by
  obtain ⟨fd, f, F⟩ := fn_Handler_setTerminator (P := P) (base := base) T
  have hB : Binds K fd ["self", "text"] [] := F.bindsN (fun _ _ _ _ _ _ us hl => match us, hl with | [_, _], _ => rfl)
  have hV : Vals [] ([] : List Value) := .nil
  refine ⟨_, fd, _, _, T.cl_StreamHandler, T.me_StreamHandler_setTerminator, ?_, hB, hV⟩
  rw [T.in_StreamHandler_setTerminator]
  exact f
theorem met_StreamHandler_addFilter (T : Txt w K mg) : Met P w K mg base 1 (ga K "StreamHandler") "addFilter" (spAddFilter K) [] := by
  obtain ⟨fd, f, F⟩ := fn_Filterer_addFilter (P := P) (base := base) T
  have hB : Binds K fd ["self", "one"] [] := F.bindsN (fun _ _ _ _ _ _ us hl => match us, hl with | [_, _], _ => rfl)
  have hV : Vals [] ([] : List Value) := .nil
  refine ⟨_, fd, _, _, T.cl_StreamHandler, T.me_StreamHandler_addFilter, ?_, hB, hV⟩
  rw [T.in_StreamHandler_addFilter]
  exact f
theorem met_NullHandler_setLevel (T : Txt w K mg) : Met P w K mg base 3 (ga K "NullHandler") "setLevel" (spSetLevel K) [] := by
  obtain ⟨fd, f, F⟩ := fn_Handler_setLevel (P := P) (base := base) T
  have hB : Binds K fd ["self", "level"] [] := F.bindsN (fun _ _ _ _ _ _ us hl => match us, hl with | [_, _], _ => rfl)
  have hV : Vals [] ([] : List Value) := .nil
  refine ⟨_, fd, _, _, T.cl_NullHandler, T.me_NullHandler_setLevel, ?_, hB, hV⟩
  rw [T.in_NullHandler_setLevel]
  exact f
theorem met_NullHandler_setFormatter (T : Txt w K mg) : Met P w K mg base 1 (ga K "NullHandler") "setFormatter" (spSetF K "formatter") [] := by
  obtain ⟨fd, f, F⟩ := fn_Handler_setFormatter (P := P) (base := base) T
  have hB : Binds K fd ["self", "formatter"] [] := F.bindsN (fun _ _ _ _ _ _ us hl => match us, hl with | [_, _], _ => rfl)
  have hV : Vals [] ([] : List Value) := .nil
  refine ⟨_, fd, _, _, T.cl_NullHandler, T.me_NullHandler_setFormatter, ?_, hB, hV⟩
  rw [T.in_NullHandler_setFormatter]
  exact f
theorem met_NullHandler_setTerminator (T : Txt w K mg) : Met P w K mg base 1 (ga K "NullHandler") "setTerminator" (spSetF K "terminator") [] := by
  obtain ⟨fd, f, F⟩ := fn_Handler_setTerminator (P := P) (base := base) T
  have hB : Binds K fd ["self", "text"] [] := F.bindsN (fun _ _ _ _ _ _ us hl => match us, hl with | [_, _], _ => rfl)
  have hV : Vals [] ([] : List Value) := .nil
  refine ⟨_, fd, _, _, T.cl_NullHandler, T.me_NullHandler_setTerminator, ?_, hB, hV⟩
  rw [T.in_NullHandler_setTerminator]
  exact f
theorem met_NullHandler_addFilter (T : Txt w K mg) : Met P w K mg base 1 (ga K "NullHandler") "addFilter" (spAddFilter K) [] := by
  obtain ⟨fd, f, F⟩ := fn_Filterer_addFilter (P := P) (base := base) T
  have hB : Binds K fd ["self", "one"] [] := F.bindsN (fun _ _ _ _ _ _ us hl => match us, hl with | [_, _], _ => rfl)
  have hV : Vals [] ([] : List Value) := .nil
  refine ⟨_, fd, _, _, T.cl_NullHandler, T.me_NullHandler_addFilter, ?_, hB, hV⟩
  rw [T.in_NullHandler_addFilter]
  exact f
theorem met_Logger_setLevel (T : Txt w K mg) : Met P w K mg base 3 (ga K "Logger") "setLevel" (spSetLevel K) [] := by
  obtain ⟨fd, f, F⟩ := fn_Logger_setLevel (P := P) (base := base) T
  have hB : Binds K fd ["self", "level"] [] := F.bindsN (fun _ _ _ _ _ _ us hl => match us, hl with | [_, _], _ => rfl)
  have hV : Vals [] ([] : List Value) := .nil
  refine ⟨_, fd, _, _, T.cl_Logger, T.me_Logger_setLevel, ?_, hB, hV⟩
  exact f
theorem met_Logger_setPropagate (T : Txt w K mg) : Met P w K mg base 1 (ga K "Logger") "setPropagate" (spSetF K "propagate") [] := by
  obtain ⟨fd, f, F⟩ := fn_Logger_setPropagate (P := P) (base := base) T
  have hB : Binds K fd ["self", "flag"] [] := F.bindsN (fun _ _ _ _ _ _ us hl => match us, hl with | [_, _], _ => rfl)
  have hV : Vals [] ([] : List Value) := .nil
  refine ⟨_, fd, _, _, T.cl_Logger, T.me_Logger_setPropagate, ?_, hB, hV⟩
  exact f
theorem met_Logger_setDisabled (T : Txt w K mg) : Met P w K mg base 1 (ga K "Logger") "setDisabled" (spSetF K "disabled") [] := by
  obtain ⟨fd, f, F⟩ := fn_Logger_setDisabled (P := P) (base := base) T
  have hB : Binds K fd ["self", "flag"] [] := F.bindsN (fun _ _ _ _ _ _ us hl => match us, hl with | [_, _], _ => rfl)
  have hV : Vals [] ([] : List Value) := .nil
  refine ⟨_, fd, _, _, T.cl_Logger, T.me_Logger_setDisabled, ?_, hB, hV⟩
  exact f
theorem met_Logger_addFilter (T : Txt w K mg) : Met P w K mg base 1 (ga K "Logger") "addFilter" (spAddFilter K) [] := by
  obtain ⟨fd, f, F⟩ := fn_Filterer_addFilter (P := P) (base := base) T
  have hB : Binds K fd ["self", "one"] [] := F.bindsN (fun _ _ _ _ _ _ us hl => match us, hl with | [_, _], _ => rfl)
  have hV : Vals [] ([] : List Value) := .nil
  refine ⟨_, fd, _, _, T.cl_Logger, T.me_Logger_addFilter, ?_, hB, hV⟩
  rw [T.in_Logger_addFilter]
  exact f
theorem sc_Logger_init : FnScope ["self", "yard", "name", "level"] ["self", "yard", "name", "level"] (defScope s_Logger_init) := ⟨rfl, rfl, rfl, by decide +kernel, rfl, by decide +kernel, by decide +kernel⟩
theorem fn_Logger_init (T : Txt w K mg) : ∃ fd, FnOk P w K mg base CX0 2 (ma K (ga K "Logger") "__init__") fd ["self", "yard", "name", "level"] (spLoggerInit K) ∧ FunD K "__init__" "Logger.__init__" (defArgs s_Logger_init) (defBody s_Logger_init) (defScope s_Logger_init) (He.DefD.dvs K d_Logger_init) [] (ma K (ga K "Logger") "__init__") fd := by
  obtain ⟨fd, F⟩ := T.df_Logger_init
  obtain ⟨fd0, f_Filterer_init, FF⟩ := fn_Filterer_init (P := P) (base := base) T
  have b_Filterer_init : Binds K fd0 ["self"] [] := FF.bindsN (fun _ _ _ _ _ _ us hl => match us, hl with | [_], _ => rfl)
  refine ⟨fd, F.ok sc_Logger_init (fun vs H Q E h => ?_) (fun cdv A outer s H vs Q E hr h => ?_), F⟩
  · obtain ⟨_, _, _, _, _, rfl, _⟩ := h
    rfl
  · obtain ⟨a, dx, y, nm, lv, rfl, ha, k⟩ := h
    refine ⟨_, PSs.nox (pss_cons (ps_expr (pe_cfn (pe_gc (by rfl) (T.gv_Filterer)) T.cf_Filterer_init f_Filterer_init (hr.mono (by decide)) b_Filterer_init .nil (C8.pass0 (E := C8.E0)) (pa_cons (pv 0) pa_nil)))
      (pss_cons (ps_fld (pv 0) (pv 1) rfl)
      (pss_cons (ps_fld (pv 0) (pv 2) rfl)
      (pss_cons (ps_fld (pv 0) (pv 3) rfl)
      (pss_cons (ps_fld (pv 0) pe_bl rfl)
      (pss_cons (ps_fld (pv 0) pe_bl rfl)
      (pss_cons (ps_fld (pv 0) (pe_lst pa_nil) rfl)
      (pss_one (ps_fld (pv 0) pe_non rfl))))))))), ?_⟩
    refine ⟨rfl, _, rfl, a, _, dx, rfl, ha, T.cl_Logger, T.no_Logger_filters, fun fl hfl => ?_⟩
    have hfa : fl ≠ a := Ne.symm (ne_of_none ha hfl)
    refine ⟨_, rfl, _, rfl, a, _, dx, _, rfl, upd_same, T.cl_Logger, T.no_Logger_yard, csz rfl, ?_⟩
    rw [upd_upd, pf_h2]
    refine ⟨_, rfl, _, rfl, a, _, dx, _, rfl, upd_same, T.cl_Logger, T.no_Logger_name, csz rfl, ?_⟩
    rw [upd_upd, pf_l3]
    refine ⟨_, rfl, _, rfl, a, _, dx, _, rfl, upd_same, T.cl_Logger, T.no_Logger_level, csz rfl, ?_⟩
    rw [upd_upd, pf_l4]
    refine ⟨_, rfl, a, _, dx, _, rfl, upd_same, T.cl_Logger, T.no_Logger_propagate, csz rfl, ?_⟩
    rw [upd_upd, pf_l5]
    refine ⟨_, rfl, a, _, dx, _, rfl, upd_same, T.cl_Logger, T.no_Logger_disabled, csz rfl, ?_⟩
    rw [upd_upd, pf_l6]
    refine ⟨ssz rfl, fun hl hhl => ?_⟩
    have hla : hl ≠ a := Ne.symm (ne_of_none upd_same hhl)
    have hlf0 := hhl
    rw [upd_ne hla] at hlf0
    have hlf : hl ≠ fl := Ne.symm (ne_of_none upd_same hlf0)
    have nhl : H hl = none := was_none hlf0
    refine ⟨_, rfl, a, _, dx, _, rfl, upd_at upd_same hhl, T.cl_Logger, T.no_Logger_handlers, csz rfl, ?_⟩
    rw [pf_l7]
    refine ⟨_, rfl, a, _, dx, _, rfl, upd_same, T.cl_Logger, T.no_Logger_parent, csz rfl, ?_⟩
    rw [upd_upd, pf_l8]
    refine k fl hl _ hfl nhl (Ne.symm hlf) upd_same (by rw [upd_ne hfa, upd_ne (Ne.symm hlf), upd_ne hfa, upd_same]) (by rw [upd_ne hla, upd_same]) ?_
    exact (((Kp.new (M := fun b => b = a) hfl).trans (Kp.at rfl)).trans (Kp.new hhl)).trans (Kp.at rfl)
theorem mk_Logger (T : Txt w K mg) : Mak P w K mg base 2 "Logger" (ga K "Logger") (spLoggerInit K) [] := by
  obtain ⟨fd, f, F⟩ := fn_Logger_init (P := P) (base := base) T
  have hB : Binds K fd ["self", "yard", "name", "level"] [] := F.bindsN (fun _ _ _ _ _ _ us hl => match us, hl with | [_, _, _, _], _ => rfl)
  have hV : Vals [] ([] : List Value) := .nil
  refine ⟨_, fd, _, _, T.mk_Logger, ?_, T.m_Logger, hB, hV⟩
  exact f
theorem sc_Logger_addHandler : FnScope ["self", "handler"] ["self", "handler"] (defScope s_Logger_addHandler) := ⟨rfl, rfl, rfl, by decide +kernel, rfl, by decide +kernel, by decide +kernel⟩
theorem fn_Logger_addHandler (T : Txt w K mg) : ∃ fd, FnOk P w K mg base CX0 1 (ma K (ga K "Logger") "addHandler") fd ["self", "handler"] (spAddHandler K) ∧ FunD K "addHandler" "Logger.addHandler" (defArgs s_Logger_addHandler) (defBody s_Logger_addHandler) (defScope s_Logger_addHandler) (He.DefD.dvs K d_Logger_addHandler) [] (ma K (ga K "Logger") "addHandler") fd := by
  obtain ⟨fd, F⟩ := T.df_Logger_addHandler
  refine ⟨fd, F.ok sc_Logger_addHandler (fun vs H Q E h => ?_) (fun cdv A outer s H vs Q E hr h => ?_), F⟩
  · obtain ⟨_, _, _, _, _, _, rfl, _⟩ := h
    rfl
  · obtain ⟨a, dx, hl, o, fs, ps, rfl, ha, hh, ehl, co, cps, ho, len, k⟩ := h
    refine ⟨_, PSs.nox (pss_one (ps_if (pt_cmpR (RyR.op_notInI hr.units) (pv 1) (pe_fld (pv 0) rfl) rfl)
        (pss_one (ps_expr (pe_bm PySem.F.plainAttrs_list PySem.F.slot_list_append PySem.F.type_list_append mt_append (pe_fld (pv 0) rfl) (pa_cons (pv 1) pa_nil))))
        pss_nil)), ?_⟩
    refine ⟨_, rfl, _, rfl, a, _, dx, fs, _, rfl, ha, T.cl_Logger, T.no_Logger_handlers, hh, ?_⟩
    refine ⟨hl, o, ps, rfl, rfl, SqL.of ehl, co, cps, _, rfl, ?_⟩
    rw [if_pos rfl, decide_eq_false ho]
    refine iteT ?_
    refine ⟨_, rfl, a, _, dx, fs, _, rfl, ha, T.cl_Logger, T.no_Logger_handlers, hh, .inl ⟨rfl, _, SqL.of ehl⟩, ?_⟩
    refine ⟨_, rfl, hl, _, _, rfl, rfl, ehl, by rw [List.length_map, sizeLine_eq]; omega, ?_⟩
    rw [List.map_append] at k
    exact k
theorem met_Logger_addHandler (T : Txt w K mg) : Met P w K mg base 1 (ga K "Logger") "addHandler" (spAddHandler K) [] := by
  obtain ⟨fd, f, F⟩ := fn_Logger_addHandler (P := P) (base := base) T
  have hB : Binds K fd ["self", "handler"] [] := F.bindsN (fun _ _ _ _ _ _ us hl => match us, hl with | [_, _], _ => rfl)
  have hV : Vals [] ([] : List Value) := .nil
  refine ⟨_, fd, _, _, T.cl_Logger, T.me_Logger_addHandler, ?_, hB, hV⟩
  exact f
end
end Ry
namespace Ry
open PySem PySem.Spec PyProof.Rows L2 He RyH
open C8 (pss_cut tCut Cal Met Mak pe_c pe_mk pe_mt pe_mt0 pe_gc)
/-! ### texts as lists -/
def tx (l : List Nat) : Str := ⟨l.toArray⟩
theorem tx_len (l : List Nat) : (tx l).length = l.length := by
  show l.toArray.size = _
  simp
theorem tx_list (l : List Nat) : (tx l).cps.toList = l := by simp [tx]
theorem tx_of (z : Str) : z = tx z.cps.toList := by
  unfold tx
  rw [Array.toArray_toList]
theorem cut_mid (a b c : List Nat) : cutS (tx (a ++ b ++ c)) (some ((a.length : Nat) : Int)) (some ((a.length + b.length : Nat) : Int)) = tx b := by
  unfold cutS
  rw [HT.sIx_nat, HT.sIx_nat, tx_len, tx_list]
  have e1 : min a.length (a ++ b ++ c).length = a.length := by rw [List.length_append, List.length_append]; omega
  have e2 : min (a.length + b.length) (a ++ b ++ c).length - a.length = b.length := by rw [List.length_append, List.length_append]; omega
  rw [e1, e2, List.append_assoc, List.drop_left, List.take_left]
  rfl
theorem cut_pre (b c : List Nat) : cutS (tx (b ++ c)) none (some ((b.length : Nat) : Int)) = tx b := by
  unfold cutS
  rw [HT.sIx_nat, HT.sIx_none, tx_len, tx_list]
  have e2 : min b.length (b ++ c).length - 0 = b.length := by simp
  rw [e2, List.drop_zero, List.take_left]
  rfl
theorem cut_post (b c : List Nat) : cutS (tx (b ++ c)) (some ((b.length : Nat) : Int)) none = tx c := by
  unfold cutS
  rw [HT.sIx_nat, HT.sIx_none, tx_len, tx_list]
  have e1 : min b.length (b ++ c).length = b.length := by simp
  have e2 : (b ++ c).length - b.length = c.length := by simp
  rw [e1, e2, List.drop_left, List.take_length]
  rfl
theorem at_mid (a c : List Nat) (x : Nat) : atI (tx (a ++ x :: c)).cps.toList ((a.length : Nat) : Int) = some x := by
  rw [tx_list]
  exact atI_nat (by simp)
/-- an int in a slot -/
def slotI (σ : L2.St) (i : Nat) : Int := match σ[i]? with
  | some (some (V.int j)) => j
  | _ => 0
/-! ### names in formats -/
def isIn (L : Str) (c : Nat) : Bool := !(Builtin.Str.occurrences L ⟨#[c]⟩ 0 L.length 1).isEmpty
def letters : Str := "abcdefghijklmnopqrstuvwxyzABCDEFGHIJKLMNOPQRSTUVWXYZ_"
def digits : Str := "0123456789"
def stopB (r : List Nat) : Bool := match r with
  | [] => true
  | c :: _ => !isIn letters c && !isIn digits c
def spNameEnd : Sp := fun vs H Q _ => ∃ (a nm r : List Nat), vs = [.str (tx (a ++ nm ++ r)), .int ((a.length : Nat) : Int)] ∧ (a ++ nm ++ r).length ≤ 10000 ∧ (∀ c ∈ nm, isIn letters c = true) ∧ stopB r = true ∧ Q (.int ((a.length + nm.length : Nat) : Int)) H
/-- a field without more -/
abbrev fdF (nm : Str) : List (Str × V) := [("name", .str nm), ("conversion", .str ""), ("fill", .str " "), ("align", .str ""), ("width", .int 0)]
def spFieldInit (K : PySem.W.Frag) : Sp := fun vs H Q _ => ∃ (a dx : Addr) (v1 v2 v3 v4 v5 : V), vs = [.ref a, v1, v2, v3, v4, v5] ∧ H a = some (.ins (ga K "Field") dx []) ∧ Q .non (upd H a (.ins (ga K "Field") dx ([("name", v1), ("conversion", v2), ("fill", v3), ("align", v4), ("width", v5)] : List (Str × V))))
theorem pf_f2 (a b : V) : putF "conversion" b [("name", a)] = ([("name", a), ("conversion", b)] : List (Str × V)) := by kernel_rfl
theorem pf_f3 (a b c : V) : putF "fill" c [("name", a), ("conversion", b)] = ([("name", a), ("conversion", b), ("fill", c)] : List (Str × V)) := by kernel_rfl
theorem pf_f4 (a b c d : V) : putF "align" d [("name", a), ("conversion", b), ("fill", c)] = ([("name", a), ("conversion", b), ("fill", c), ("align", d)] : List (Str × V)) := by kernel_rfl
theorem pf_f5 (a b c d e : V) : putF "width" e [("name", a), ("conversion", b), ("fill", c), ("align", d)] = ([("name", a), ("conversion", b), ("fill", c), ("align", d), ("width", e)] : List (Str × V)) := by kernel_rfl
/-- a Field of that name, new -/
def FldAt (K : PySem.W.Frag) (H : Hp) (v : V) (nm : List Nat) : Prop := ∃ a dx, v = .ref a ∧ H a = some (.ins (ga K "Field") dx (fdF (tx nm)))
def spFieldOf (K : PySem.W.Frag) : Sp := fun vs H Q _ => ∃ (nm : List Nat), vs = [.str (tx nm)] ∧ nm ≠ [] ∧ nm.length ≤ 9000 ∧ (∀ c ∈ nm, isIn letters c = true) ∧ ∀ v H', FldAt K H' v nm → Same H H' → Q v H'
section
variable {P : Program} {w : World} {K : PySem.W.Frag} {mg : Str → Option Value} {base : Heap}
theorem sc_name_end : FnScope ["text", "start", "end"] ["text", "start"] (defScope s_name_end) := ⟨rfl, rfl, rfl, by decide +kernel, rfl, by decide +kernel, by decide +kernel⟩
theorem cal_name_end (T : Txt w K mg) : Cal P w K mg base 1 "name_end" (spNameEnd) [] := by
  obtain ⟨fd, F⟩ := T.df_name_end
  refine ⟨_, fd, ["text", "start"], [], F.ok sc_name_end (fun vs H Q E h => ?_) (fun cdv A outer s H vs Q E hr h => ?_), T.m_name_end, F.kp, F.bindsN (fun _ _ _ _ _ _ us hl => match us, hl with | [_, _], _ => rfl), .nil⟩
  · obtain ⟨_, _, _, rfl, _⟩ := h
    rfl
  · obtain ⟨a, nm, r, rfl, hz, hn, hst, k⟩ := h
    refine ⟨_, PSs.nox (pss_cons (ps_set (i := 2) sc_name_end.nd rfl (Or.inl rfl) (pv 1))
      (pss_cons (ps_while PassesOwn.never (PW.pt (pw_and (pt_cmpR op_lt (pv 2) (pe_callB (id := "len") call_len_str (by rfl) T.f_len PySem.boot_len (pa_cons (pv 0) pa_nil)) (nomark _)) (pw_and1 (PW.pt (pw_or (pt_cmpR op_in_str (pe_ix ix_str (pv 0) (pv 2) (fun _ _ => rfl)) (pe_gc (by rfl) (T.c_LETTERS)) rfl) (pw_or1 (PW.pt (pw_and (pt_cmpR op_gt (pv 2) (pv 1) (nomark _)) (pw_and1 (pt_cmpR op_in_str (pe_ix ix_str (pv 0) (pv 2) (fun _ _ => rfl)) (pe_gc (by rfl) (T.c_DIGITS)) rfl))))))))))
        (pss_one (ps_aug (i := 2) sc_name_end.nd rfl (Or.inl rfl) pe_int ip_add)))
      (pss_one (ps_ret (pv 2))))), ?_⟩
    refine ⟨_, rfl, ?_⟩
    refine ⟨fun n σ' H' => H' = H ∧ ∃ b c : List Nat, nm = b ++ c ∧ n = c.length ∧ σ' = [some (.str (tx (a ++ nm ++ r))), some (.int ((a.length : Nat) : Int)), some (.int ((a.length + b.length : Nat) : Int))], ⟨_, rfl, [], nm, rfl, rfl, rfl⟩, ?_⟩
    rintro n σ' H' ⟨rfl, b, c, e, rfl, rfl⟩
    refine ⟨_, rfl, ?_⟩
    refine ⟨_, rfl, ?_⟩
    refine ⟨_, rfl, by rw [tx_len, sizeLine_eq]; omega, ?_⟩
    refine ⟨_, _, rfl, rfl, _, rfl, ?_⟩
    rw [tx_len]
    have hl : (a ++ nm ++ r).length = a.length + nm.length + r.length := by rw [List.length_append, List.length_append]
    have hbc : nm.length = b.length + c.length := by rw [e, List.length_append]
    cases c with
    | cons x c =>
      have hx : isIn letters x = true := hn x (by rw [e]; exact List.mem_append_right _ (List.mem_cons_self ..))
      have et : a ++ nm ++ r = (a ++ b) ++ x :: (c ++ r) := by rw [e]; simp
      rw [show decide (((a.length + b.length : Nat) : Int) < (((a ++ nm ++ r).length : Nat) : Int)) = true from decide_eq_true (by rw [hl]; rw [List.length_cons] at hbc; omega)]
      refine iteT ?_
      refine ⟨_, rfl, ?_⟩
      refine ⟨_, rfl, ?_⟩
      refine ⟨_, _, x, rfl, rfl, by rw [tx_len, sizeLine_eq]; omega, by rw [et, ← List.length_append]; exact at_mid _ _ _, ?_⟩
      refine ⟨_, _, rfl, rfl, true, congrArg V.bl hx, ?_⟩
      refine iteT ?_
      refine iteT ?_
      refine ⟨_, fun σ' H' h => ⟨c.length, Nat.lt_succ_self _, h⟩, ?_⟩
      refine ⟨_, rfl, _, _, rfl, rfl, ?_⟩
      refine ⟨rfl, b ++ [x], c, by rw [e]; simp, rfl, ?_⟩
      rw [show ((a.length + (b ++ [x]).length : Nat) : Int) = ((a.length + b.length : Nat) : Int) + 1 by rw [List.length_append, List.length_singleton]; omega]
      rfl
    | nil =>
      have e0 : nm = b := by rw [e, List.append_nil]
      subst e0
      clear hbc
      cases r with
      | nil =>
        rw [show decide (((a.length + nm.length : Nat) : Int) < (((a ++ nm ++ ([] : List Nat)).length : Nat) : Int)) = false from decide_eq_false (by rw [hl, List.length_nil]; omega)]
        refine iteF ?_
        exact ⟨_, rfl, k⟩
      | cons x r =>
        obtain ⟨x1, x2⟩ := ba (show (!isIn letters x && !isIn digits x) = true from hst)
        have y1 : isIn letters x = false := by simpa using x1
        have y2 : isIn digits x = false := by simpa using x2
        rw [show decide (((a.length + nm.length : Nat) : Int) < (((a ++ nm ++ x :: r).length : Nat) : Int)) = true from decide_eq_true (by rw [hl, List.length_cons]; omega)]
        refine iteT ?_
        refine ⟨_, rfl, ?_⟩
        refine ⟨_, rfl, ?_⟩
        have ha : atI (tx (a ++ nm ++ x :: r)).cps.toList (((a.length + nm.length : Nat)) : Int) = some x := by rw [← List.length_append]; exact at_mid _ _ _
        refine ⟨_, _, x, rfl, rfl, by rw [tx_len, sizeLine_eq]; omega, ha, ?_⟩
        refine ⟨_, _, rfl, rfl, false, congrArg V.bl y1, ?_⟩
        refine iteF ?_
        refine ⟨_, rfl, ?_⟩
        refine ⟨_, rfl, ?_⟩
        refine ⟨_, _, rfl, rfl, _, rfl, ?_⟩
        refine ite2 (fun _ => ?_) (fun _ => ?_)
        · refine ⟨_, rfl, ?_⟩
          refine ⟨_, rfl, ?_⟩
          refine ⟨_, _, x, rfl, rfl, by rw [tx_len, sizeLine_eq]; omega, ha, ?_⟩
          refine ⟨_, _, rfl, rfl, false, congrArg V.bl y2, ?_⟩
          refine iteF ?_
          exact ⟨_, rfl, k⟩
        · refine iteF ?_
          exact ⟨_, rfl, k⟩
theorem sc_Field_init : FnScope ["self", "name", "conversion", "fill", "align", "width"] ["self", "name", "conversion", "fill", "align", "width"] (defScope s_Field_init) := ⟨rfl, rfl, rfl, by decide +kernel, rfl, by decide +kernel, by decide +kernel⟩
theorem fn_Field_init (T : Txt w K mg) : ∃ fd, FnOk P w K mg base CX0 1 (ma K (ga K "Field") "__init__") fd ["self", "name", "conversion", "fill", "align", "width"] (spFieldInit K) ∧ FunD K "__init__" "Field.__init__" (defArgs s_Field_init) (defBody s_Field_init) (defScope s_Field_init) (He.DefD.dvs K d_Field_init) [] (ma K (ga K "Field") "__init__") fd := by
  obtain ⟨fd, F⟩ := T.df_Field_init
  refine ⟨fd, F.ok sc_Field_init (fun vs H Q E h => ?_) (fun cdv A outer s H vs Q E hr h => ?_), F⟩
  · obtain ⟨_, _, _, _, _, _, _, rfl, _⟩ := h
    rfl
  · obtain ⟨a, dx, v1, v2, v3, v4, v5, rfl, ha, k⟩ := h
    refine ⟨_, PSs.nox (pss_cons (ps_fld (pv 0) (pv 1) rfl)
      (pss_cons (ps_fld (pv 0) (pv 2) rfl)
      (pss_cons (ps_fld (pv 0) (pv 3) rfl)
      (pss_cons (ps_fld (pv 0) (pv 4) rfl)
      (pss_one (ps_fld (pv 0) (pv 5) rfl)))))), ?_⟩
    refine ⟨_, rfl, _, rfl, a, _, dx, _, rfl, ha, T.cl_Field, T.no_Field_name, csz rfl, ?_⟩
    refine ⟨_, rfl, _, rfl, a, _, dx, _, rfl, upd_same, T.cl_Field, T.no_Field_conversion, csz rfl, ?_⟩
    rw [upd_upd, show putF "name" v1 ([] : List (Str × V)) = ([("name", v1)] : List (Str × V)) from rfl, pf_f2]
    refine ⟨_, rfl, _, rfl, a, _, dx, _, rfl, upd_same, T.cl_Field, T.no_Field_fill, csz rfl, ?_⟩
    rw [upd_upd, pf_f3]
    refine ⟨_, rfl, _, rfl, a, _, dx, _, rfl, upd_same, T.cl_Field, T.no_Field_align, csz rfl, ?_⟩
    rw [upd_upd, pf_f4]
    refine ⟨_, rfl, _, rfl, a, _, dx, _, rfl, upd_same, T.cl_Field, T.no_Field_width, csz rfl, ?_⟩
    rw [upd_upd, pf_f5]
    exact k
theorem mk_Field2 (T : Txt w K mg) : Mak P w K mg base 1 "Field" (ga K "Field") (spFieldInit K) [(.str " "), (.str ""), (.int (0))] := by
  obtain ⟨fd, f, F⟩ := fn_Field_init (P := P) (base := base) T
  obtain ⟨ds, hV, hB⟩ := F.binds1 (ps := ["self", "name", "conversion", "fill", "align", "width"]) 3 1 (fun z => nomatch z) rfl (fun _ _ _ _ _ _ _ us its h1 h2 => match us, its, h1, h2 with | [_, _, _], [_, _, _, _], _, _ => ⟨_, rfl, rfl⟩)
  refine ⟨_, fd, _, _, T.mk_Field, ?_, T.m_Field, hB, hV⟩
  exact f
theorem mk_Field1 (T : Txt w K mg) : Mak P w K mg base 1 "Field" (ga K "Field") (spFieldInit K) [(.str ""), (.str " "), (.str ""), (.int (0))] := by
  obtain ⟨fd, f, F⟩ := fn_Field_init (P := P) (base := base) T
  obtain ⟨ds, hV, hB⟩ := F.binds1 (ps := ["self", "name", "conversion", "fill", "align", "width"]) 2 0 (fun z => nomatch z) rfl (fun _ _ _ _ _ _ _ us its h1 h2 => match us, its, h1, h2 with | [_, _], [_, _, _, _], _, _ => ⟨_, rfl, rfl⟩)
  refine ⟨_, fd, _, _, T.mk_Field, ?_, T.m_Field, hB, hV⟩
  exact f
theorem sc_field_of : FnScope ["body", "end", "name", "rest", "conversion", "spec"] ["body"] (defScope s_field_of) := ⟨rfl, rfl, rfl, by decide +kernel, rfl, by decide +kernel, by decide +kernel⟩
theorem cal_field_of (T : Txt w K mg) : Cal P w K mg base 3 "field_of" (spFieldOf K) [] := by
  obtain ⟨fd, F⟩ := T.df_field_of
  have c_name_end := cal_name_end (P := P) (base := base) T
  have c_mk_Field := mk_Field2 (P := P) (base := base) T
  refine ⟨_, fd, ["body"], [], F.ok sc_field_of (fun vs H Q E h => ?_) (fun cdv A outer s H vs Q E hr h => ?_), T.m_field_of, F.kp, F.bindsN (fun _ _ _ _ _ _ us hl => match us, hl with | [_], _ => rfl), .nil⟩
  · obtain ⟨_, rfl, _⟩ := h
    rfl
  · obtain ⟨nm, rfl, hne, hl, hn, k⟩ := h
    refine ⟨_, PSs.nox (pss_cons (ps_set (i := 1) sc_field_of.nd rfl (Or.inl rfl) (pe_c c_name_end hr (by decide) (by rfl) (pa_cons (pv 0) (pa_cons pe_int pa_nil))))
      (pss_cons (ps_par3 (i := 2) (j := 3) (l := 4) (by rfl) sc_field_of.nd rfl rfl rfl (by decide) (by decide) (by decide) rfl rfl rfl (pa_cons (pe_slice sl_str (pv 0) po_none (po_some (pv 1))) (pa_cons (pe_slice sl_str (pv 0) (po_some (pv 1)) po_none) (pa_cons pe_str pa_nil))) (by rfl))
      (pss_cons (ps_if (pt_cmpR op_in_seq (pe_slice sl_str (pv 3) po_none (po_some pe_int)) (pe_tup (pa_cons pe_str (pa_cons pe_str pa_nil))) rfl)
        (pss_one ps_never)
        pss_nil)
      (pss_cons (ps_if (PW.pt (pw_or (pt_cmpR op_eq (pv 2) pe_str (nomark _)) (pw_or1 (PW.pt (pw_and (pt_cmpR op_ne (pv 3) pe_str (nomark _)) (pw_and1 (pt_cmpR op_ne (pe_ix ix_str (pv 3) pe_int (fun _ _ => rfl)) pe_str (nomark _))))))))
        (pss_one ps_never)
        pss_nil)
      (pss_cons (ps_if (pt_cmpR op_eq (pv 3) pe_str (nomark _))
        (pss_one (ps_ret (pe_mk c_mk_Field hr (by decide) (by rfl) (pa_cons (pv 2) (pa_cons (pv 4) pa_nil)))))
        pss_nil)
      (pss_cons ps_never
      (pss_one ps_never))))))), ?_⟩
    refine ⟨_, rfl, ?_⟩
    refine ⟨[], nm, [], by simp, by simp; omega, hn, rfl, ?_⟩
    rw [show ((([] : List Nat).length + nm.length : Nat) : Int) = ((nm.length : Nat) : Int) by rw [List.length_nil, Nat.zero_add]]
    have hz : (tx nm).length ≤ sizeLine := by rw [tx_len, sizeLine_eq]; omega
    refine ⟨_, rfl, _, rfl, _, rfl, _, rfl, hz, ?_⟩
    refine ⟨_, rfl, _, rfl, _, rfl, _, rfl, hz, ?_⟩
    have e1 : cutS (tx nm) none (some ((nm.length : Nat) : Int)) = tx nm := by
      have z := cut_pre nm []
      rwa [List.append_nil] at z
    have e2 : cutS (tx nm) (some ((nm.length : Nat) : Int)) none = tx [] := by
      have z := cut_post nm []
      rwa [List.append_nil] at z
    rw [e1, e2]
    refine ⟨_, _, _, rfl, ?_⟩
    -- rest[:2] in ..
    refine ⟨_, rfl, _, rfl, _, rfl, ssz rfl, ssz rfl, fun t ht => ?_⟩
    refine ⟨t, _, rfl, .inr (SqT.of upd_same), rfl, rfl, false, congrArg V.bl (by decide +kernel), iteF ?_⟩
    -- name == '' ..
    have en : decide (V.str (tx nm) = V.str "") = false := decide_eq_false fun z => by
      have z2 := V.str.inj z
      have z3 : (tx nm).cps.toList = [] := by rw [z2]; rfl
      rw [tx_list] at z3
      exact hne z3
    refine ⟨_, rfl, rfl, false, congrArg V.bl en, iteF ?_⟩
    refine ⟨_, rfl, rfl, false, congrArg V.bl (by decide +kernel), iteF ?_⟩
    refine iteF ?_
    -- rest == ''
    refine ⟨_, rfl, rfl, true, congrArg V.bl (by decide +kernel), iteT ?_⟩
    refine ⟨_, rfl, _, rfl, fun x dx hx hdx hne2 => ?_⟩
    refine ⟨x, dx, _, _, _, _, _, rfl, upd_same, rfl, ?_⟩
    rw [upd_upd]
    refine k _ _ ⟨x, dx, rfl, upd_same⟩ ?_
    exact Same.tr (Same.nw ht) (Same.tr (Same.nw hdx) (Same.nw (by rw [upd_ne hne2.symm]; exact hx)))
end
end Ry
namespace Ry
open PySem PySem.Spec PyProof.Rows L2 He RyH
open C8 (pss_cut tCut Cal Met Mak pe_c pe_mk pe_mt pe_mt0 pe_gc)
/-! ### formats as tokens -/
inductive Tk where
  | ch (c : Nat) | fld (nm : List Nat)
def Tk.ok : Tk → Prop
  | .ch _ => True
  | .fld nm => nm ≠ [] ∧ ∀ c ∈ nm, isIn letters c = true
def escB (c : Nat) : List Nat := if c = 123 then [123, 123] else if c = 125 then [125, 125] else [c]
def encB : Tk → List Nat
  | .ch c => escB c
  | .fld nm => 123 :: (nm ++ [125])
def TkAt (K : PySem.W.Frag) (H : Hp) (v : V) : Tk → Prop
  | .ch c => v = .str (tx [c])
  | .fld nm => FldAt K H v nm
theorem FldAt.same {K : PySem.W.Frag} {H H' : Hp} {v : V} {nm : List Nat} (h : FldAt K H v nm) (k : Same H H') : FldAt K H' v nm := by
  obtain ⟨a, dx, e, q⟩ := h
  exact ⟨a, dx, e, k _ _ q⟩
theorem TkAt.same {K : PySem.W.Frag} {H H' : Hp} {v : V} {t : Tk} (h : TkAt K H v t) (k : Same H H') : TkAt K H' v t := by
  cases t with
  | ch c => exact h
  | fld nm => exact FldAt.same h k
def spParts (K : PySem.W.Frag) (enc : Tk → List Nat) : Sp := fun vs H Q _ => ∃ (ts : List Tk), vs = [.str (tx (ts.flatMap enc))] ∧ (ts.flatMap enc).length ≤ 5000 ∧ (∀ t ∈ ts, t.ok) ∧
  ∀ p us H', H p = none → H' p = some (.lst us) → Paired (TkAt K H') us ts → Same H H' → Q (.ref p) H'
theorem letter_ne {c d : Nat} (h : isIn letters c = true) (hd : isIn letters d = false) : c ≠ d := fun z => by rw [z, hd] at h; cases h
theorem l123 : isIn letters 123 = false := by decide +kernel
theorem l125 : isIn letters 125 = false := by decide +kernel
theorem l36 : isIn letters 36 = false := by decide +kernel
theorem tx_inj {a b : List Nat} (h : tx a = tx b) : a = b := by
  have := congrArg (fun z : Str => z.cps.toList) h
  simpa [tx_list] using this
theorem str_beq (l m : List Nat) : ((tx l) == (tx m)) = decide (l = m) := by
  by_cases e : l = m
  · subst e
    simp
  · rw [decide_eq_false e]
    exact beq_eq_false_iff_ne.mpr fun z => e (tx_inj z)
theorem in_two (l a b : List Nat) : inV (.str (tx l)) [.str (tx a), .str (tx b)] = (decide (a = l) || decide (b = l)) := by
  show ((tx a == tx l) || ((tx b == tx l) || false)) = _
  rw [str_beq, str_beq, Bool.or_false]
theorem cut2 (a r : List Nat) : cutS (tx (a ++ r)) (some ((a.length : Nat) : Int)) (some (((a.length : Nat) : Int) + 2)) = tx (r.take 2) := by
  have e : (((a.length : Nat) : Int) + 2) = ((a.length + 2 : Nat) : Int) := by omega
  rw [e]
  unfold cutS
  rw [HT.sIx_nat, HT.sIx_nat, tx_len, tx_list, List.length_append]
  have e1 : min a.length (a.length + r.length) = a.length := by omega
  have e2 : min (a.length + 2) (a.length + r.length) - a.length = min 2 r.length := by omega
  rw [e1, e2, List.drop_left]
  show tx _ = tx _
  congr 1
  rcases Nat.le_total 2 r.length with h | h
  · rw [Nat.min_eq_left h]
  · rw [Nat.min_eq_right h, List.take_length, List.take_of_length_le h]
theorem find_brace (a nm r : List Nat) (hn : ∀ c ∈ nm, c ≠ 125) : Txt.find3 (tx (a ++ 123 :: (nm ++ 125 :: r))) (tx [125]) ((a.length : Nat) : Int) = ((a.length + 1 + nm.length : Nat) : Int) := by
  have hg : ∀ v, (tx (a ++ 123 :: (nm ++ 125 :: r))).cps.getD v 0 = (a ++ 123 :: (nm ++ 125 :: r)).getD v 0 := fun v => by
    unfold tx
    simp [Array.getD_eq_getD_getElem?, List.getD_eq_getElem?_getD]
  have hp : (a ++ 123 :: (nm ++ 125 :: r)).getD (a.length + 1 + nm.length) 0 = 125 := by
    rw [List.getD_eq_getElem?_getD, show a ++ 123 :: (nm ++ 125 :: r) = (a ++ 123 :: nm) ++ 125 :: r by simp, List.getElem?_append_right (by simp; omega)]
    have e : a.length + 1 + nm.length - (a ++ 123 :: nm).length = 0 := by simp; omega
    rw [e]
    rfl
  have hlt : ∀ v, a.length ≤ v → v < a.length + 1 + nm.length → (a ++ 123 :: (nm ++ 125 :: r)).getD v 0 ≠ 125 := fun v h1 h2 => by
    rw [List.getD_eq_getElem?_getD, List.getElem?_append_right h1]
    obtain ⟨j, hj⟩ : ∃ j, v - a.length = j := ⟨_, rfl⟩
    rw [hj]
    cases j with
    | zero => simp
    | succ j =>
      rw [List.getElem?_cons_succ, List.getElem?_append_left (by omega)]
      have hjl : j < nm.length := by omega
      rw [List.getElem?_eq_getElem hjl]
      exact hn _ (List.getElem_mem hjl)
  have hf : PySem.fromIndex (tx (a ++ 123 :: (nm ++ 125 :: r))).length ((a.length : Nat) : Int) = a.length := by
    unfold PySem.fromIndex
    rw [if_neg (by omega)]
    omega
  have hl : (tx (a ++ 123 :: (nm ++ 125 :: r))).length = a.length + 1 + nm.length + 1 + r.length := by
    rw [tx_len]
    simp
    omega
  rcases PySem.StrLaws.find3_spec (tx (a ++ 123 :: (nm ++ 125 :: r))) 125 ((a.length : Nat) : Int) with ⟨_, h⟩ | ⟨k, h1, h2, h3, h4, h5⟩
  · exact absurd (by rw [hg]; exact hp) (h (a.length + 1 + nm.length) (by rw [hf]; omega) (by rw [hl]; omega))
  · rw [hf] at h2 h5
    rw [hg] at h4
    have : k = a.length + 1 + nm.length := by
      rcases Nat.lt_trichotomy k (a.length + 1 + nm.length) with z | z | z
      · exact absurd h4 (hlt k h2 z)
      · exact z
      · exact absurd (by rw [hg]; exact hp) (h5 (a.length + 1 + nm.length) (by omega) z)
    rw [← this]
    exact h1
theorem in_brk (l : List Nat) : inV (.str (tx l)) [.str "{{", .str "}}"] = (decide ([123, 123] = l) || decide ([125, 125] = l)) := in_two l [123, 123] [125, 125]
theorem in_br1 (l : List Nat) : inV (.str (tx l)) [.str "{", .str "}"] = (decide ([123] = l) || decide ([125] = l)) := in_two l [123] [125]
theorem encB_pos (t : Tk) : 1 ≤ (encB t).length := by
  cases t with
  | ch c =>
    show 1 ≤ (escB c).length
    unfold escB
    split
    · simp
    · split <;> simp
  | fld nm => simp [encB]
theorem dlen_le {enc : Tk → List Nat} : ∀ dn : List Tk, (∀ t ∈ dn, 1 ≤ (enc t).length) → dn.length ≤ (dn.flatMap enc).length
  | [], _ => Nat.le_refl _
  | t :: dn, h => by
    have h1 := h t (List.mem_cons_self ..)
    have h2 := dlen_le dn fun x hx => h x (List.mem_cons_of_mem _ hx)
    rw [List.flatMap_cons, List.length_append, List.length_cons]
    omega
theorem Paired.snoc' {α β : Type} {F : α → β → Prop} {x : α} {y : β} (h : F x y) : ∀ {xs : List α} {ys : List β}, Paired F xs ys → Paired F (xs ++ [x]) (ys ++ [y])
  | _, _, .nil => .cons h .nil
  | _, _, .cons r t => .cons r (Paired.snoc' h t)
/-- the list of parts is written -/
theorem TkAt.upd {K : PySem.W.Frag} {H : Hp} {v : V} {t : Tk} {p : Addr} {xs ys : List V} (h : TkAt K H v t) (hp : H p = some (.lst xs)) : TkAt K (L2.upd H p (.lst ys)) v t := by
  cases t with
  | ch c => exact h
  | fld nm =>
    obtain ⟨a, dx, e, q⟩ := h
    exact ⟨a, dx, e, by rw [upd_ne (ne_of q hp (fun z => nomatch z))]; exact q⟩
section
variable {P : Program} {w : World} {K : PySem.W.Frag} {mg : Str → Option Value} {base : Heap}
theorem sc_parts_of_braces : FnScope ["fmt", "found", "at", "end", "part"] ["fmt"] (defScope s_parts_of_braces) := ⟨rfl, rfl, rfl, by decide +kernel, rfl, by decide +kernel, by decide +kernel⟩
theorem cal_parts_of_braces (T : Txt w K mg) : Cal P w K mg base 4 "parts_of_braces" (spParts K encB) [] := by
  obtain ⟨fd, F⟩ := T.df_parts_of_braces
  have c_field_of := cal_field_of (P := P) (base := base) T
  refine ⟨_, fd, ["fmt"], [], F.ok sc_parts_of_braces (fun vs H Q E h => ?_) (fun cdv A outer s H vs Q E hr h => ?_), T.m_parts_of_braces, F.kp, F.bindsN (fun _ _ _ _ _ _ us hl => match us, hl with | [_], _ => rfl), .nil⟩
  · obtain ⟨_, rfl, _⟩ := h
    rfl
  · obtain ⟨ts, rfl, hl, hok, k⟩ := h
    refine ⟨_, PSs.nox (pss_cons (ps_par (i := 1) (j := 2) (by rfl) sc_parts_of_braces.nd rfl rfl (by decide) rfl rfl (pa_cons (pe_lst pa_nil) (pa_cons pe_int pa_nil)) (by rfl))
      (pss_cons (ps_while PassesOwn.never (pt_cmpR op_lt (pv 2) (pe_callB (id := "len") call_len_str (by rfl) T.f_len PySem.boot_len (pa_cons (pv 0) pa_nil)) (nomark _))
        (pss_cons (ps_par (i := 3) (j := 4) (by rfl) sc_parts_of_braces.nd rfl rfl (by decide) rfl rfl (pa_cons (pe_op op_add (pv 2) pe_int) (pa_cons (pe_ix ix_str (pv 0) (pv 2) (fun _ _ => rfl)) pa_nil)) (by rfl))
        (pss_cut (ps_if (pt_cmpR op_in_seq (pe_slice sl_str (pv 0) (po_some (pv 2)) (po_some (pe_op op_add (pv 2) pe_int))) (pe_tup (pa_cons pe_str (pa_cons pe_str pa_nil))) rfl)
          (pss_one (ps_set (i := 3) sc_parts_of_braces.nd rfl (Or.inl rfl) (pe_op op_add (pv 2) pe_int)))
          (pss_one (ps_if (pt_cmpR op_in_seq (pv 4) (pe_tup (pa_cons pe_str (pa_cons pe_str pa_nil))) rfl)
            (pss_cons (ps_set (i := 3) sc_parts_of_braces.nd rfl (Or.inl rfl) (pe_op op_add (pe_bm PySem.F.plainAttrs_str PySem.F.slot_str_find PySem.F.type_str_find mt_find3 (pv 0) (pa_cons pe_str (pa_cons (pv 2) pa_nil))) pe_int))
            (pss_one (ps_set (i := 4) sc_parts_of_braces.nd rfl (Or.inl rfl) (RyT.pe_cutE (pe_ifExp (pt_cmpR op_gt (pv 3) pe_int (nomark _)) (pe_c c_field_of hr (by decide) (by rfl) (pa_cons (pe_slice sl_str (pv 0) (po_some (pe_op op_add (pv 2) pe_int)) (po_some (pe_op op_sub (pv 3) pe_int))) pa_nil)) pe_non)))))
            pss_nil)))
        (pss_cons (ps_if (pt_cmpR op_isN (pv 4) pe_non (nomark _))
          (pss_one ps_never)
          pss_nil)
        (pss_cons (ps_expr (pe_bm PySem.F.plainAttrs_list PySem.F.slot_list_append PySem.F.type_list_append mt_append (pv 1) (pa_cons (pv 4) pa_nil)))
        (pss_one (ps_set (i := 2) sc_parts_of_braces.nd rfl (Or.inl rfl) (pv 3))))))))
      (pss_one (ps_ret (pv 1))))), ?_⟩
    have hz : (tx (ts.flatMap encB)).length ≤ sizeLine := by rw [tx_len, sizeLine_eq]; omega
    refine ⟨ssz rfl, fun p hp => ?_⟩
    refine ⟨_, _, rfl, ?_⟩
    refine ⟨fun n σ' H' => ∃ (dn rs : List Tk) (o3 o4 : Option V) (us : List V), ts = dn ++ rs ∧ n = rs.length ∧ σ' = [some (.str (tx (ts.flatMap encB))), some (.ref p), some (.int (((dn.flatMap encB).length : Nat) : Int)), o3, o4] ∧ H' p = some (.lst us) ∧ Paired (TkAt K H') us dn ∧ Same H H', ⟨_, [], ts, _, _, [], rfl, rfl, rfl, upd_same, .nil, Same.nw hp⟩, ?_⟩
    rintro n σ' H' ⟨dn, rs, o3, o4, us, e, rfl, rfl, hus, hpd, hsm⟩
    refine ⟨_, rfl, ?_⟩
    refine ⟨_, rfl, ?_⟩
    refine ⟨_, rfl, hz, ?_⟩
    refine ⟨_, _, rfl, rfl, _, rfl, ?_⟩
    rw [tx_len]
    have hlen : us.length = dn.length := Paired.length hpd
    have hts : ts.flatMap encB = dn.flatMap encB ++ rs.flatMap encB := by rw [e, List.flatMap_append]
    cases rs with
    | nil =>
      rw [show decide ((((dn.flatMap encB).length : Nat) : Int) < (((ts.flatMap encB).length : Nat) : Int)) = false from decide_eq_false (by rw [hts]; simp)]
      refine iteF ?_
      refine ⟨_, rfl, ?_⟩
      rw [List.append_nil] at e
      subst e
      exact k p us H' hp hus hpd hsm
    | cons t rs =>
      have hok1 : t.ok := hok t (by rw [e]; exact List.mem_append_right _ (List.mem_cons_self ..))
      have hne : encB t ≠ [] := by
        cases t with
        | ch c =>
          show escB c ≠ []
          unfold escB
          split
          · simp
          · split <;> simp
        | fld nm => exact List.cons_ne_nil _ _
      obtain ⟨c, r, hcr⟩ : ∃ c r, encB t = c :: r := by
        cases q : encB t with
        | nil => exact absurd q hne
        | cons c r => exact ⟨c, r, rfl⟩
      have hts2 : ts.flatMap encB = dn.flatMap encB ++ (c :: r ++ rs.flatMap encB) := by rw [hts, List.flatMap_cons, hcr]
      have hdl : (dn.flatMap encB).length < (ts.flatMap encB).length := by rw [hts2]; simp
      rw [show decide ((((dn.flatMap encB).length : Nat) : Int) < (((ts.flatMap encB).length : Nat) : Int)) = true from decide_eq_true (by omega)]
      refine iteT ?_
      refine ⟨_, fun σ' H' h => ⟨rs.length, Nat.lt_succ_self _, h⟩, ?_⟩
      -- end, part
      refine ⟨_, rfl, _, _, rfl, rfl, ?_⟩
      have hat : atI (tx (ts.flatMap encB)).cps.toList (((dn.flatMap encB).length : Nat) : Int) = some c := by rw [hts2]; exact at_mid _ _ _
      refine ⟨_, rfl, _, rfl, _, _, c, rfl, rfl, hz, hat, ?_⟩
      refine ⟨_, _, rfl, ?_⟩
      refine ⟨fun σ' H'' => Same H' H'' ∧ ∃ v, TkAt K H'' v t ∧ σ' = [some (.str (tx (ts.flatMap encB))), some (.ref p), some (.int (((dn.flatMap encB).length : Nat) : Int)), some (.int (((dn.flatMap encB).length + (encB t).length : Nat) : Int)), some v], ?_, ?_⟩
      · refine ⟨_, rfl, _, rfl, _, rfl, _, rfl, _, _, rfl, rfl, _, rfl, _, rfl, hz, ?_⟩
        refine ⟨ssz rfl, fun q hq => ?_⟩
        rw [hts2, cut2]
        refine ⟨q, _, rfl, .inr (SqT.of upd_same), rfl, rfl, ?_⟩
        cases t with
        | ch c0 =>
          have hesc : escB c0 = c :: r := hcr
          unfold escB at hesc
          by_cases h1 : c0 = 123
          · rw [if_pos h1] at hesc
            cases hesc
            refine ⟨true, congrArg V.bl (in_brk _), iteT ?_⟩
            refine ⟨_, rfl, _, _, rfl, rfl, ?_⟩
            refine ⟨Same.nw hq, .str (tx [123]), by rw [h1]; rfl, ?_⟩
            rw [show encB (.ch c0) = [123, 123] from hcr]
            rfl
          · rw [if_neg h1] at hesc
            by_cases h2 : c0 = 125
            · rw [if_pos h2] at hesc
              cases hesc
              refine ⟨true, congrArg V.bl (in_brk _), iteT ?_⟩
              refine ⟨_, rfl, _, _, rfl, rfl, ?_⟩
              refine ⟨Same.nw hq, .str (tx [125]), by rw [h2]; rfl, ?_⟩
              rw [show encB (.ch c0) = [125, 125] from hcr]
              rfl
            · rw [if_neg h2] at hesc
              have hc0 : c0 = c := (List.cons.inj hesc).1
              have hr0 : [] = r := (List.cons.inj hesc).2
              subst hc0
              subst hr0
              have hb : inV (.str (tx (([c0] ++ rs.flatMap encB).take 2))) [.str "{{", .str "}}"] = false := by
                rw [in_brk]
                have z1 : ¬ [123, 123] = ([c0] ++ rs.flatMap encB).take 2 := fun z => h1 (by simp at z; exact z.1.symm)
                have z2 : ¬ [125, 125] = ([c0] ++ rs.flatMap encB).take 2 := fun z => h2 (by simp at z; exact z.1.symm)
                rw [decide_eq_false z1, decide_eq_false z2]
                rfl
              refine ⟨false, congrArg V.bl hb, iteF ?_⟩
              refine ⟨_, rfl, ssz rfl, fun q2 hq2 => ?_⟩
              have hb1 : inV (.str (tx [c0])) [.str "{", .str "}"] = false := by
                rw [in_br1]
                have z1 : ¬ [123] = [c0] := fun z => h1 (by simp at z; exact z.symm)
                have z2 : ¬ [125] = [c0] := fun z => h2 (by simp at z; exact z.symm)
                rw [decide_eq_false z1, decide_eq_false z2]
                rfl
              refine ⟨q2, _, rfl, .inr (SqT.of upd_same), rfl, rfl, false, congrArg V.bl hb1, iteF ?_⟩
              refine ⟨Same.tr (Same.nw hq) (Same.nw hq2), .str (tx [c0]), rfl, ?_⟩
              rw [show encB (.ch c0) = [c0] from hcr]
              rfl
        | fld nm =>
          have hf : 123 :: (nm ++ [125]) = c :: r := hcr
          cases hf
          obtain ⟨hn0, hnl⟩ := hok1
          cases nm with
          | nil => exact absurd rfl hn0
          | cons x nm =>
            have hx : x ≠ 123 := letter_ne (hnl x (List.mem_cons_self ..)) l123
            have hb : inV (.str (tx ((123 :: ((x :: nm) ++ [125]) ++ rs.flatMap encB).take 2))) [.str "{{", .str "}}"] = false := by
              rw [in_brk]
              have z1 : ¬ [123, 123] = (123 :: ((x :: nm) ++ [125]) ++ rs.flatMap encB).take 2 := fun z => hx (by simp at z; exact z.symm)
              have z2 : ¬ [125, 125] = (123 :: ((x :: nm) ++ [125]) ++ rs.flatMap encB).take 2 := fun z => by simp at z
              rw [decide_eq_false z1, decide_eq_false z2]
              rfl
            refine ⟨false, congrArg V.bl hb, iteF ?_⟩
            refine ⟨_, rfl, ssz rfl, fun q2 hq2 => ?_⟩
            refine ⟨q2, _, rfl, .inr (SqT.of upd_same), rfl, rfl, true, congrArg V.bl (in_br1 _), iteT ?_⟩
            -- find
            have hA : (tx (dn.flatMap encB ++ (123 :: ((x :: nm) ++ [125]) ++ rs.flatMap encB))).length ≤ sizeLine := by rw [← hts2]; exact hz
            have hfind : Txt.find3 (tx (dn.flatMap encB ++ (123 :: ((x :: nm) ++ [125]) ++ rs.flatMap encB))) "}" (((dn.flatMap encB).length : Nat) : Int) = (((dn.flatMap encB).length + 1 + (x :: nm).length : Nat) : Int) := by
              have z := find_brace (dn.flatMap encB) (x :: nm) (rs.flatMap encB) (fun c hc => letter_ne (hnl c hc) l125)
              rw [show dn.flatMap encB ++ (123 :: ((x :: nm) ++ [125]) ++ rs.flatMap encB) = dn.flatMap encB ++ 123 :: ((x :: nm) ++ 125 :: rs.flatMap encB) by simp]
              exact z
            have hcut : cutS (tx (dn.flatMap encB ++ (123 :: ((x :: nm) ++ [125]) ++ rs.flatMap encB))) (some ((((dn.flatMap encB).length : Nat) : Int) + 1)) (some ((((dn.flatMap encB).length + 1 + (x :: nm).length : Nat) : Int) + 1 - 1)) = tx (x :: nm) := by
              have z := cut_mid (dn.flatMap encB ++ [123]) (x :: nm) (125 :: rs.flatMap encB)
              rw [show dn.flatMap encB ++ (123 :: ((x :: nm) ++ [125]) ++ rs.flatMap encB) = dn.flatMap encB ++ [123] ++ (x :: nm) ++ 125 :: rs.flatMap encB by simp]
              rw [show ((((dn.flatMap encB).length : Nat) : Int) + 1) = (((dn.flatMap encB ++ [123]).length : Nat) : Int) by rw [List.length_append, List.length_singleton]; omega]
              rw [show ((((dn.flatMap encB).length + 1 + (x :: nm).length : Nat) : Int) + 1 - 1) = (((dn.flatMap encB ++ [123]).length + (x :: nm).length : Nat) : Int) by rw [List.length_append, List.length_singleton]; omega]
              exact z
            refine ⟨_, rfl, rfl, _, rfl, _, _, _, rfl, rfl, ?_⟩
            rw [hfind]
            refine ⟨_, _, rfl, rfl, ?_⟩
            have hsq := Same.tr (Same.nw (o := .tup [.str "{{", .str "}}"]) hq) (Same.nw (o := .tup [.str "{", .str "}"]) hq2)
            refine ⟨fun v H2 => FldAt K H2 v (x :: nm) ∧ Same H' H2, ?_, ?_⟩
            · refine ⟨_, rfl, _, _, rfl, rfl, true, congrArg V.bl (decide_eq_true (by omega)), iteT ?_⟩
              refine ⟨_, rfl, _, rfl, _, _, rfl, rfl, _, rfl, _, rfl, _, _, rfl, rfl, _, rfl, _, rfl, hA, ?_⟩
              rw [hcut]
              have hnlen : (x :: nm).length ≤ 9000 := by
                have z := hl
                rw [hts2] at z
                simp only [List.length_append, List.length_cons] at z ⊢
                omega
              exact ⟨x :: nm, rfl, List.cons_ne_nil _ _, hnlen, hnl, fun v H2 hv hs2 => ⟨hv, Same.tr hsq hs2⟩⟩
            · rintro v H2 ⟨hv, hs2⟩
              refine ⟨hs2, v, hv, ?_⟩
              rw [show (((dn.flatMap encB).length + (encB (.fld (x :: nm))).length : Nat) : Int) = (((dn.flatMap encB).length + 1 + (x :: nm).length : Nat) : Int) + 1 by rw [show (encB (.fld (x :: nm))).length = (x :: nm).length + 2 by simp [encB]]; omega]
              rfl
      · rintro σ' H'' ⟨hs2, v, hv, rfl⟩
        refine ⟨_, rfl, ?_⟩
        have hnn : v ≠ .non := by
          cases t with
          | ch c => intro z; rw [show v = _ from hv] at z; cases z
          | fld nm => obtain ⟨a, dx, e, _⟩ := hv; intro z; rw [e] at z; cases z
        refine ⟨rfl, false, congrArg V.bl (decide_eq_false hnn), iteF ?_⟩
        refine ⟨_, rfl, .inl ⟨rfl, _, SqL.of (hs2 _ _ hus)⟩, _, rfl, p, _, _, rfl, rfl, hs2 _ _ hus, by rw [hlen, sizeLine_eq]; have := dlen_le dn (enc := encB) (fun t _ => encB_pos t); omega, ?_⟩
        refine ⟨_, rfl, ?_⟩
        refine ⟨dn ++ [t], rs, some (.int (((dn.flatMap encB).length + (encB t).length : Nat) : Int)), some v, us ++ [v], by rw [e]; simp, rfl, ?_, upd_same, ?_, Same.wr (Same.tr hsm hs2) hp⟩
        · rw [show (((dn ++ [t]).flatMap encB).length : Nat) = (dn.flatMap encB).length + (encB t).length by rw [List.flatMap_append, List.length_append]; simp]
          rfl
        · exact Paired.snoc' (TkAt.upd hv (hs2 _ _ hus)) (Paired.impl hpd fun _ _ z => TkAt.upd (z.same hs2) (hs2 _ _ hus))
end
end Ry
namespace Ry
open PySem PySem.Spec PyProof.Rows L2 He RyH
open C8 (pss_cut tCut Cal Met Mak pe_c pe_mk pe_mt pe_mt0 pe_gc)
/-! ### formats of the other style -/
def rRep1 : R2 := fun x y H Q => ∃ z, x = .str z ∧ y = .int 1 ∧ Q (.str z) H
theorem op_rep1 {X : Cx} : OpR X (binaryOp .Mult) rRep1 := by
  intro pins s σ H x y v u Q I rx ry h
  obtain ⟨z, rfl, rfl, q⟩ := h
  obtain ⟨t, rfl⟩ := rx
  obtain ⟨t', rfl⟩ := ry
  exact PySem.P.mul_str (by decide) (fun _ h => by simp at h) (fun _ h => by simp at h) ⟨.str z, H, I, ⟨t, rfl⟩, q⟩
def encD : Tk → List Nat
  | .ch c => if c = 36 then [36, 36] else [c]
  | .fld nm => 36 :: 123 :: (nm ++ [125])
theorem encD_pos (t : Tk) : 1 ≤ (encD t).length := by
  cases t with
  | ch c =>
    show 1 ≤ (if c = 36 then [36, 36] else [c]).length
    split <;> simp
  | fld nm => simp [encD]
def spFieldBehind (K : PySem.W.Frag) : Sp := fun vs H Q _ => ∃ (a nm r : List Nat), vs = [.str (tx (a ++ 123 :: (nm ++ 125 :: r))), .int ((a.length : Nat) : Int)] ∧ (a ++ 123 :: (nm ++ 125 :: r)).length ≤ 9000 ∧ nm ≠ [] ∧ (∀ c ∈ nm, isIn letters c = true) ∧
  ∀ t v H', H' t = some (.tup [v, .int ((a.length + nm.length + 2 : Nat) : Int)]) → FldAt K H' v nm → Same H H' → Q (.ref t) H'
theorem d125 : isIn digits 125 = false := by decide +kernel
section
variable {P : Program} {w : World} {K : PySem.W.Frag} {mg : Str → Option Value} {base : Heap}
theorem sc_field_behind : FnScope ["fmt", "start", "ahead", "end", "name", "stop"] ["fmt", "start"] (defScope s_field_behind) := ⟨rfl, rfl, rfl, by decide +kernel, rfl, by decide +kernel, by decide +kernel⟩
theorem cal_field_behind (T : Txt w K mg) : Cal P w K mg base 3 "field_behind" (spFieldBehind K) [] := by
  obtain ⟨fd, F⟩ := T.df_field_behind
  have c_name_end := cal_name_end (P := P) (base := base) T
  have c_mk_Field := mk_Field1 (P := P) (base := base) T
  refine ⟨_, fd, ["fmt", "start"], [], F.ok sc_field_behind (fun vs H Q E h => ?_) (fun cdv A outer s H vs Q E hr h => ?_), T.m_field_behind, F.kp, F.bindsN (fun _ _ _ _ _ _ us hl => match us, hl with | [_, _], _ => rfl), .nil⟩
  · obtain ⟨_, _, _, rfl, _⟩ := h
    rfl
  · obtain ⟨a, nm, r, rfl, hl, hne, hn, k⟩ := h
    refine ⟨_, PSs.nox (pss_cons (ps_set (i := 2) sc_field_behind.nd rfl (Or.inl rfl) (pe_callTy (T := "int") call_int1 (by rfl) T.f_int (by decide +kernel) (pa_cons (pe_cmpR op_eq (pe_slice sl_str (pv 0) (po_some (pv 1)) (po_some (pe_op op_add (pv 1) pe_int))) pe_str (nomark _)) pa_nil)))
      (pss_cons (ps_set (i := 3) sc_field_behind.nd rfl (Or.inl rfl) (pe_c c_name_end hr (by decide) (by rfl) (pa_cons (pv 0) (pa_cons (pe_op op_add (pv 1) (pv 2)) pa_nil))))
      (pss_cons (ps_par (i := 4) (j := 5) (by rfl) sc_field_behind.nd rfl rfl (by decide) rfl rfl (pa_cons (pe_slice sl_str (pv 0) (po_some (pe_op op_add (pv 1) (pv 2))) (po_some (pv 3))) (pa_cons (pe_op op_add (pv 3) (pv 2)) pa_nil)) (by rfl))
      (pss_cons (ps_if (PW.pt (pw_or (pt_cmpR op_eq (pv 4) pe_str (nomark _)) (pw_or1 (pt_cmpR op_ne (pe_slice sl_str (pv 0) (po_some (pv 3)) (po_some (pv 5))) (pe_op op_rep1 pe_str (pv 2)) (nomark _)))))
        (pss_one ps_never)
        pss_nil)
      (pss_one (ps_ret (pe_tup (pa_cons (pe_mk c_mk_Field hr (by decide) (by rfl) (pa_cons (pv 4) pa_nil)) (pa_cons (pv 5) pa_nil))))))))), ?_⟩
    have hz : (tx (a ++ 123 :: (nm ++ 125 :: r))).length ≤ sizeLine := by rw [tx_len, sizeLine_eq]; omega
    have hlen : (a ++ 123 :: (nm ++ 125 :: r)).length = a.length + 1 + nm.length + 1 + r.length := by simp; omega
    -- ahead
    refine ⟨_, rfl, _, rfl, _, rfl, _, rfl, _, _, rfl, rfl, _, rfl, _, rfl, hz, ?_⟩
    have c1 : cutS (tx (a ++ 123 :: (nm ++ 125 :: r))) (some ((a.length : Nat) : Int)) (some (((a.length : Nat) : Int) + 1)) = tx [123] := by
      have z := cut_mid a [123] (nm ++ 125 :: r)
      rw [show a ++ 123 :: (nm ++ 125 :: r) = a ++ [123] ++ (nm ++ 125 :: r) by simp]
      exact z
    rw [c1]
    refine ⟨rfl, .inr ⟨_, rfl, ?_⟩⟩
    rw [show decide (V.str (tx [123]) = V.str "{") = true by decide +kernel, if_pos rfl]
    -- end
    refine ⟨_, rfl, _, rfl, _, rfl, _, _, rfl, rfl, ?_⟩
    have e1 : a ++ [123] ++ nm ++ 125 :: r = a ++ 123 :: (nm ++ 125 :: r) := by simp
    refine ⟨a ++ [123], nm, 125 :: r, by rw [e1, List.length_append]; rfl, by rw [e1]; omega, hn, by show (!isIn letters 125 && !isIn digits 125) = true; rw [l125, d125]; rfl, ?_⟩
    rw [show (((a ++ ([123] : List Nat)).length + nm.length : Nat) : Int) = ((a.length + 1 + nm.length : Nat) : Int) by rw [List.length_append, List.length_singleton]]
    -- name, stop
    refine ⟨_, rfl, _, rfl, _, rfl, _, _, rfl, rfl, _, rfl, _, rfl, _, rfl, _, rfl, hz, ?_⟩
    have c2 : cutS (tx (a ++ 123 :: (nm ++ 125 :: r))) (some (((a.length : Nat) : Int) + 1)) (some ((a.length + 1 + nm.length : Nat) : Int)) = tx nm := by
      have z := cut_mid (a ++ [123]) nm (125 :: r)
      rw [e1, List.length_append, List.length_singleton] at z
      exact z
    rw [c2]
    refine ⟨_, rfl, _, rfl, _, _, rfl, rfl, ?_⟩
    refine ⟨_, _, rfl, ?_⟩
    -- the test
    have en : decide (V.str (tx nm) = V.str "") = false := decide_eq_false fun z => by
      have z2 := V.str.inj z
      have z3 : (tx nm).cps.toList = [] := by rw [z2]; rfl
      rw [tx_list] at z3
      exact hne z3
    refine ⟨_, rfl, rfl, false, congrArg V.bl en, iteF ?_⟩
    refine ⟨_, rfl, _, rfl, _, rfl, _, rfl, _, rfl, _, rfl, hz, ?_⟩
    have c3 : cutS (tx (a ++ 123 :: (nm ++ 125 :: r))) (some ((a.length + 1 + nm.length : Nat) : Int)) (some (((a.length + 1 + nm.length : Nat) : Int) + 1)) = tx [125] := by
      have z := cut_mid (a ++ [123] ++ nm) [125] r
      rw [show a ++ [123] ++ nm ++ [125] ++ r = a ++ 123 :: (nm ++ 125 :: r) by simp] at z
      rw [show (a ++ ([123] : List Nat) ++ nm).length = a.length + 1 + nm.length by rw [List.length_append, List.length_append, List.length_singleton]] at z
      exact z
    rw [c3]
    refine ⟨_, rfl, _, rfl, rfl, rfl, false, congrArg V.bl (by decide +kernel), iteF ?_⟩
    refine ⟨_, rfl, fun x dx hx hdx hne2 => ?_⟩
    refine ⟨x, dx, _, _, _, _, _, rfl, upd_same, rfl, ?_⟩
    rw [upd_upd]
    refine ⟨_, rfl, ssz rfl, fun t ht => ?_⟩
    refine k t (.ref x) _ ?_ ⟨x, dx, rfl, upd_at upd_same ht⟩ (Same.tr (Same.nw hdx) (Same.tr (Same.nw (by rw [upd_ne hne2.symm]; exact hx)) (Same.nw ht)))
    rw [upd_same, show ((a.length + nm.length + 2 : Nat) : Int) = ((a.length + 1 + nm.length : Nat) : Int) + 1 by omega]
theorem sc_parts_of_dollars : FnScope ["fmt", "found", "at", "end", "part"] ["fmt"] (defScope s_parts_of_dollars) := ⟨rfl, rfl, rfl, by decide +kernel, rfl, by decide +kernel, by decide +kernel⟩
theorem cal_parts_of_dollars (T : Txt w K mg) : Cal P w K mg base 4 "parts_of_dollars" (spParts K encD) [] := by
  obtain ⟨fd, F⟩ := T.df_parts_of_dollars
  have c_field_behind := cal_field_behind (P := P) (base := base) T
  refine ⟨_, fd, ["fmt"], [], F.ok sc_parts_of_dollars (fun vs H Q E h => ?_) (fun cdv A outer s H vs Q E hr h => ?_), T.m_parts_of_dollars, F.kp, F.bindsN (fun _ _ _ _ _ _ us hl => match us, hl with | [_], _ => rfl), .nil⟩
  · obtain ⟨_, rfl, _⟩ := h
    rfl
  · obtain ⟨ts, rfl, hl, hok, k⟩ := h
    refine ⟨_, PSs.nox (pss_cons (ps_par (i := 1) (j := 2) (by rfl) sc_parts_of_dollars.nd rfl rfl (by decide) rfl rfl (pa_cons (pe_lst pa_nil) (pa_cons pe_int pa_nil)) (by rfl))
      (pss_cons (ps_while PassesOwn.never (pt_cmpR op_lt (pv 2) (pe_callB (id := "len") call_len_str (by rfl) T.f_len PySem.boot_len (pa_cons (pv 0) pa_nil)) (nomark _))
        (pss_cons (ps_par (i := 3) (j := 4) (by rfl) sc_parts_of_dollars.nd rfl rfl (by decide) rfl rfl (pa_cons (pe_op op_add (pv 2) pe_int) (pa_cons (pe_ix ix_str (pv 0) (pv 2) (fun _ _ => rfl)) pa_nil)) (by rfl))
        (pss_cut (ps_if (pt_cmpR op_eq (pe_slice sl_str (pv 0) (po_some (pv 2)) (po_some (pe_op op_add (pv 2) pe_int))) pe_str (nomark _))
          (pss_one (ps_set (i := 3) sc_parts_of_dollars.nd rfl (Or.inl rfl) (pe_op op_add (pv 2) pe_int)))
          (pss_one (ps_if (pt_cmpR op_eq (pv 4) pe_str (nomark _))
            (pss_one (ps_asg (pe_c c_field_behind hr (by decide) (by rfl) (pa_cons (pv 0) (pa_cons (pe_op op_add (pv 2) pe_int) pa_nil))) (pg_tup rfl (pgs_cons (pg_name (i := 4) sc_parts_of_dollars.nd rfl (Or.inl rfl)) (pgs_cons (pg_name (i := 3) sc_parts_of_dollars.nd rfl (Or.inl rfl)) pgs_nil)))))
            pss_nil)))
        (pss_cons (ps_if (pt_cmpR op_isN (pv 4) pe_non (nomark _))
          (pss_one ps_never)
          pss_nil)
        (pss_cons (ps_expr (pe_bm PySem.F.plainAttrs_list PySem.F.slot_list_append PySem.F.type_list_append mt_append (pv 1) (pa_cons (pv 4) pa_nil)))
        (pss_one (ps_set (i := 2) sc_parts_of_dollars.nd rfl (Or.inl rfl) (pv 3))))))))
      (pss_one (ps_ret (pv 1))))), ?_⟩
    have hz : (tx (ts.flatMap encD)).length ≤ sizeLine := by rw [tx_len, sizeLine_eq]; omega
    refine ⟨ssz rfl, fun p hp => ?_⟩
    refine ⟨_, _, rfl, ?_⟩
    refine ⟨fun n σ' H' => ∃ (dn rs : List Tk) (o3 o4 : Option V) (us : List V), ts = dn ++ rs ∧ n = rs.length ∧ σ' = [some (.str (tx (ts.flatMap encD))), some (.ref p), some (.int (((dn.flatMap encD).length : Nat) : Int)), o3, o4] ∧ H' p = some (.lst us) ∧ Paired (TkAt K H') us dn ∧ Same H H', ⟨_, [], ts, _, _, [], rfl, rfl, rfl, upd_same, .nil, Same.nw hp⟩, ?_⟩
    rintro n σ' H' ⟨dn, rs, o3, o4, us, e, rfl, rfl, hus, hpd, hsm⟩
    refine ⟨_, rfl, ?_⟩
    refine ⟨_, rfl, ?_⟩
    refine ⟨_, rfl, hz, ?_⟩
    refine ⟨_, _, rfl, rfl, _, rfl, ?_⟩
    rw [tx_len]
    have hlen : us.length = dn.length := Paired.length hpd
    have hts : ts.flatMap encD = dn.flatMap encD ++ rs.flatMap encD := by rw [e, List.flatMap_append]
    cases rs with
    | nil =>
      rw [show decide ((((dn.flatMap encD).length : Nat) : Int) < (((ts.flatMap encD).length : Nat) : Int)) = false from decide_eq_false (by rw [hts]; simp)]
      refine iteF ?_
      refine ⟨_, rfl, ?_⟩
      rw [List.append_nil] at e
      subst e
      exact k p us H' hp hus hpd hsm
    | cons t rs =>
      have hok1 : t.ok := hok t (by rw [e]; exact List.mem_append_right _ (List.mem_cons_self ..))
      obtain ⟨c, r, hcr⟩ : ∃ c r, encD t = c :: r := by
        cases q : encD t with
        | nil =>
          have z := encD_pos t
          rw [q] at z
          exact absurd z (by decide)
        | cons c r => exact ⟨c, r, rfl⟩
      have hts2 : ts.flatMap encD = dn.flatMap encD ++ (c :: r ++ rs.flatMap encD) := by rw [hts, List.flatMap_cons, hcr]
      have hdl : (dn.flatMap encD).length < (ts.flatMap encD).length := by rw [hts2]; simp
      rw [show decide ((((dn.flatMap encD).length : Nat) : Int) < (((ts.flatMap encD).length : Nat) : Int)) = true from decide_eq_true (by omega)]
      refine iteT ?_
      refine ⟨_, fun σ' H' h => ⟨rs.length, Nat.lt_succ_self _, h⟩, ?_⟩
      refine ⟨_, rfl, _, _, rfl, rfl, ?_⟩
      have hat : atI (tx (ts.flatMap encD)).cps.toList (((dn.flatMap encD).length : Nat) : Int) = some c := by rw [hts2]; exact at_mid _ _ _
      refine ⟨_, rfl, _, rfl, _, _, c, rfl, rfl, hz, hat, ?_⟩
      refine ⟨_, _, rfl, ?_⟩
      refine ⟨fun σ' H'' => Same H' H'' ∧ ∃ v, TkAt K H'' v t ∧ σ' = [some (.str (tx (ts.flatMap encD))), some (.ref p), some (.int (((dn.flatMap encD).length : Nat) : Int)), some (.int (((dn.flatMap encD).length + (encD t).length : Nat) : Int)), some v], ?_, ?_⟩
      · refine ⟨_, rfl, _, rfl, _, rfl, _, rfl, _, _, rfl, rfl, _, rfl, _, rfl, hz, ?_⟩
        rw [hts2, cut2]
        refine ⟨rfl, ?_⟩
        cases t with
        | ch c0 =>
          have hesc : (if c0 = 36 then [36, 36] else [c0]) = c :: r := hcr
          by_cases h1 : c0 = 36
          · rw [if_pos h1] at hesc
            cases hesc
            refine ⟨true, congrArg V.bl (decide_eq_true rfl), iteT ?_⟩
            refine ⟨_, rfl, _, _, rfl, rfl, ?_⟩
            refine ⟨Same.rfl', .str (tx [36]), by rw [h1]; rfl, ?_⟩
            rw [show encD (.ch c0) = [36, 36] from hcr]
            rfl
          · rw [if_neg h1] at hesc
            have hc0 : c0 = c := (List.cons.inj hesc).1
            have hr0 : [] = r := (List.cons.inj hesc).2
            subst hc0
            subst hr0
            have hb : decide (V.str (tx (([c0] ++ rs.flatMap encD).take 2)) = V.str "$$") = false := decide_eq_false fun z => by
              have z2 : tx (([c0] ++ rs.flatMap encD).take 2) = tx [36, 36] := V.str.inj z
              have z3 := tx_inj z2
              simp at z3
              exact h1 z3.1
            refine ⟨false, congrArg V.bl hb, iteF ?_⟩
            have hb1 : decide (V.str (tx [c0]) = V.str "$") = false := decide_eq_false fun z => by
              have z2 : tx [c0] = tx [36] := V.str.inj z
              have z3 := tx_inj z2
              simp at z3
              exact h1 z3
            refine ⟨_, rfl, rfl, false, congrArg V.bl hb1, iteF ?_⟩
            refine ⟨Same.rfl', .str (tx [c0]), rfl, ?_⟩
            rw [show encD (.ch c0) = [c0] from hcr]
            rfl
        | fld nm =>
          have hf : 36 :: 123 :: (nm ++ [125]) = c :: r := hcr
          cases hf
          obtain ⟨hn0, hnl⟩ := hok1
          have hb : decide (V.str (tx ((36 :: 123 :: (nm ++ [125]) ++ rs.flatMap encD).take 2)) = V.str "$$") = false := decide_eq_false fun z => by
            have z2 : tx ((36 :: 123 :: (nm ++ [125]) ++ rs.flatMap encD).take 2) = tx [36, 36] := V.str.inj z
            have z3 := tx_inj z2
            simp at z3
          refine ⟨false, congrArg V.bl hb, iteF ?_⟩
          refine ⟨_, rfl, rfl, true, congrArg V.bl (decide_eq_true rfl), iteT ?_⟩
          refine ⟨_, rfl, _, rfl, _, _, rfl, rfl, ?_⟩
          have e1 : dn.flatMap encD ++ (36 :: 123 :: (nm ++ [125]) ++ rs.flatMap encD) = dn.flatMap encD ++ [36] ++ 123 :: (nm ++ 125 :: rs.flatMap encD) := by simp
          have hnlen : (dn.flatMap encD ++ [36] ++ 123 :: (nm ++ 125 :: rs.flatMap encD)).length ≤ 9000 := by rw [← e1, ← hts2]; omega
          refine ⟨dn.flatMap encD ++ [36], nm, rs.flatMap encD, ?_, hnlen, hn0, hnl, fun q v H2 hq hv hs2 => ?_⟩
          · rw [e1, List.length_append]
            rfl
          · refine ⟨q, _, rfl, SqT.of hq, rfl, ?_⟩
            refine ⟨_, _, rfl, _, _, rfl, rfl, ?_⟩
            refine ⟨hs2, v, hv, ?_⟩
            rw [show ((dn.flatMap encD).length + (encD (.fld nm)).length : Nat) = (dn.flatMap encD ++ ([36] : List Nat)).length + nm.length + 2 by rw [List.length_append, List.length_singleton, show (encD (.fld nm)).length = nm.length + 3 by simp [encD]]; omega]
            rfl
      · rintro σ' H'' ⟨hs2, v, hv, rfl⟩
        refine ⟨_, rfl, ?_⟩
        have hnn : v ≠ .non := by
          cases t with
          | ch c => intro z; rw [show v = _ from hv] at z; cases z
          | fld nm => obtain ⟨a, dx, e, _⟩ := hv; intro z; rw [e] at z; cases z
        refine ⟨rfl, false, congrArg V.bl (decide_eq_false hnn), iteF ?_⟩
        refine ⟨_, rfl, .inl ⟨rfl, _, SqL.of (hs2 _ _ hus)⟩, _, rfl, p, _, _, rfl, rfl, hs2 _ _ hus, by rw [hlen, sizeLine_eq]; have := dlen_le dn (enc := encD) (fun t _ => encD_pos t); omega, ?_⟩
        refine ⟨_, rfl, ?_⟩
        refine ⟨dn ++ [t], rs, some (.int (((dn.flatMap encD).length + (encD t).length : Nat) : Int)), some v, us ++ [v], by rw [e]; simp, rfl, ?_, upd_same, ?_, Same.wr (Same.tr hsm hs2) hp⟩
        · rw [show (((dn ++ [t]).flatMap encD).length : Nat) = (dn.flatMap encD).length + (encD t).length by rw [List.flatMap_append, List.length_append]; simp]
          rfl
        · exact Paired.snoc' (TkAt.upd hv (hs2 _ _ hus)) (Paired.impl hpd fun _ _ z => TkAt.upd (z.same hs2) (hs2 _ _ hus))
end
end Ry
namespace Ry
open PySem PySem.Spec PyProof.Rows L2 He RyH
open C8 (pss_cut tCut Cal Met Mak pe_c pe_mk pe_mt pe_mt0 pe_gc)
/-! ### texts that stand side by side are joined -/
inductive JP where
  | txt (l : List Nat) | fld (nm : List Nat)
def Tk.isCh : Tk → Bool
  | .ch _ => true
  | .fld _ => false
def JP.isT : JP → Bool
  | .txt _ => true
  | .fld _ => false
def JAt (K : PySem.W.Frag) (H : Hp) (v : V) : JP → Prop
  | .txt l => v = .str (tx l)
  | .fld nm => FldAt K H v nm
theorem JAt.same {K : PySem.W.Frag} {H H' : Hp} {v : V} {t : JP} (h : JAt K H v t) (k : Same H H') : JAt K H' v t := by
  cases t with
  | txt c => exact h
  | fld nm => exact FldAt.same h k
theorem JAt.upd {K : PySem.W.Frag} {H : Hp} {v : V} {t : JP} {p : Addr} {xs ys : List V} (h : JAt K H v t) (hp : H p = some (.lst xs)) : JAt K (L2.upd H p (.lst ys)) v t := by
  cases t with
  | txt c => exact h
  | fld nm =>
    obtain ⟨a, dx, e, q⟩ := h
    exact ⟨a, dx, e, by rw [upd_ne (ne_of q hp (fun z => nomatch z))]; exact q⟩
def joinStep (acc : List JP) (t : Tk) : List JP := match t, acc.getLast? with
  | .ch c, some (.txt l) => acc.dropLast ++ [.txt (l ++ [c])]
  | .ch c, _ => acc ++ [.txt [c]]
  | .fld nm, _ => acc ++ [.fld nm]
def joinT (ts : List Tk) : List JP := ts.foldl joinStep []
theorem joinT_take {ts : List Tk} {i : Nat} {t : Tk} (h : ts[i]? = some t) : joinT (ts.take (i + 1)) = joinStep (joinT (ts.take i)) t := by
  unfold joinT
  rw [take_nth h, List.foldl_append]
  rfl
/-- does the next one join the last one -/
def joins (acc : List JP) (t : Tk) : Bool := match t, acc.getLast? with
  | .ch _, some (.txt _) => true
  | _, _ => false
theorem step_app {acc : List JP} {t : Tk} (h : joins acc t = false) : joinStep acc t = acc ++ [match t with | .ch c => .txt [c] | .fld nm => .fld nm] := by
  unfold joins at h
  unfold joinStep
  cases t with
  | fld nm => rfl
  | ch c =>
    cases q : acc.getLast? with
    | none => rfl
    | some j =>
      cases j with
      | txt l => rw [q] at h; cases h
      | fld nm => rfl
theorem step_join {acc : List JP} {t : Tk} (h : joins acc t = true) : ∃ acc' l c, t = .ch c ∧ acc = acc' ++ [.txt l] ∧ joinStep acc t = acc' ++ [.txt (l ++ [c])] := by
  unfold joins at h
  cases t with
  | fld nm => cases h
  | ch c =>
    cases q : acc.getLast? with
    | none => rw [q] at h; cases h
    | some j =>
      cases j with
      | fld nm => rw [q] at h; cases h
      | txt l =>
        obtain ⟨acc', e⟩ := List.getLast?_eq_some_iff.mp q
        refine ⟨acc', l, c, rfl, e, ?_⟩
        unfold joinStep
        rw [q, e]
        simp
theorem Paired.unsnoc {α β : Type} {F : α → β → Prop} {ys : List β} {y : β} : ∀ {xs : List α}, Paired F xs (ys ++ [y]) → ∃ xs' x, xs = xs' ++ [x] ∧ Paired F xs' ys ∧ F x y := by
  induction ys with
  | nil =>
    intro xs h
    cases h with
    | cons r t =>
      cases t
      exact ⟨[], _, rfl, .nil, r⟩
  | cons z ys ih =>
    intro xs h
    cases h with
    | cons r t =>
      obtain ⟨xs', x, e, h1, h2⟩ := ih t
      exact ⟨_ :: xs', x, by rw [e]; rfl, .cons r h1, h2⟩
theorem atI_last {α : Type} (xs : List α) (x : α) : atI (xs ++ [x]) (-1) = some x := by
  have e : ixN (xs ++ [x]).length (-1) = some xs.length := by
    unfold ixN
    rw [if_neg (by omega), if_pos (by simp; omega)]
    simp
    omega
  unfold atI
  rw [e]
  simp
theorem joinStep_len {acc : List JP} {t : Tk} {n : Nat} (h : ∀ l, JP.txt l ∈ acc → l.length ≤ n) : ∀ l, JP.txt l ∈ joinStep acc t → l.length ≤ n + 1 := by
  cases q : joins acc t with
  | false =>
    rw [step_app q]
    intro l hl
    rcases List.mem_append.mp hl with z | z
    · exact Nat.le_succ_of_le (h l z)
    · have := List.mem_singleton.mp z
      cases t with
      | ch c => cases this; simp
      | fld nm => cases this
  | true =>
    obtain ⟨acc', l0, c, rfl, rfl, e⟩ := step_join q
    rw [e]
    intro l hl
    rcases List.mem_append.mp hl with z | z
    · exact Nat.le_succ_of_le (h l (List.mem_append_left _ z))
    · have := List.mem_singleton.mp z
      cases this
      have := h l0 (List.mem_append_right _ (List.mem_cons_self ..))
      rw [List.length_append, List.length_singleton]
      omega
theorem joinStep_cnt (acc : List JP) (t : Tk) : (joinStep acc t).length ≤ acc.length + 1 := by
  cases q : joins acc t with
  | false => rw [step_app q, List.length_append, List.length_singleton]; exact Nat.le_refl _
  | true =>
    obtain ⟨acc', l0, c, rfl, rfl, e⟩ := step_join q
    rw [e]
    simp
theorem joins_fld (acc : List JP) (nm : List Nat) : joins acc (.fld nm) = false := by unfold joins; rfl
theorem joins_nil (t : Tk) : joins [] t = false := by cases t <;> rfl
theorem joins_snoc (acc : List JP) (j : JP) (c : Nat) : joins (acc ++ [j]) (.ch c) = j.isT := by
  unfold joins
  rw [List.getLast?_append]
  cases j <;> rfl
theorem ixN_last (n : Nat) : ixN (n + 1) (-1) = some n := by
  unfold ixN
  rw [if_neg (by omega), if_pos (by omega)]
  congr 1
  omega
theorem tx_app (a b : List Nat) : tx a ++ tx b = tx (a ++ b) := by
  show (⟨a.toArray ++ b.toArray⟩ : Str) = ⟨(a ++ b).toArray⟩
  simp
def spJoined (K : PySem.W.Frag) : Sp := fun vs H Q _ => ∃ (p : Addr) (us : List V) (ts : List Tk), vs = [.ref p] ∧ H p = some (.lst us) ∧ Paired (TkAt K H) us ts ∧ ts.length ≤ 5000 ∧
  ∀ q js H', H' q = some (.tup js) → Paired (JAt K H') js (joinT ts) → Same H H' → Q (.ref q) H'
section
variable {P : Program} {w : World} {K : PySem.W.Frag} {mg : Str → Option Value} {base : Heap}
theorem TkAt.isStr {H : Hp} (T : Txt w K mg) {v : V} {t : Tk} (h : TkAt K H v t) : ∃ ty, TyX K H v ty ∧ PySem.W.kitOne K ty (.type "str") = some t.isCh := by
  cases t with
  | ch c =>
    cases h
    exact ⟨_, .base (.str _), kit_ty (show kitB "str" "str" = some true by decide +kernel)⟩
  | fld nm =>
    obtain ⟨a, dx, rfl, e⟩ := h
    have cc := T.cc_Field
    exact ⟨_, .base (.ins e T.cl_Field cc.ha cc.hn cc.htk cc.ob), T.ki_Field_str⟩
theorem JAt.isStr {H : Hp} (T : Txt w K mg) {v : V} {t : JP} (h : JAt K H v t) : ∃ ty, TyX K H v ty ∧ PySem.W.kitOne K ty (.type "str") = some t.isT := by
  cases t with
  | txt c =>
    cases h
    exact ⟨_, .base (.str _), kit_ty (show kitB "str" "str" = some true by decide +kernel)⟩
  | fld nm =>
    obtain ⟨a, dx, rfl, e⟩ := h
    have cc := T.cc_Field
    exact ⟨_, .base (.ins e T.cl_Field cc.ha cc.hn cc.htk cc.ob), T.ki_Field_str⟩
theorem sc_joined_texts : FnScope ["parts", "found", "part"] ["parts"] (defScope s_joined_texts) := ⟨rfl, rfl, rfl, by decide +kernel, rfl, by decide +kernel, by decide +kernel⟩
theorem cal_joined_texts (T : Txt w K mg) : Cal P w K mg base 1 "joined_texts" (spJoined K) [] := by
  obtain ⟨fd, F⟩ := T.df_joined_texts
  refine ⟨_, fd, ["parts"], [], F.ok sc_joined_texts (fun vs H Q E h => ?_) (fun cdv A outer s H vs Q E hr h => ?_), T.m_joined_texts, F.kp, F.bindsN (fun _ _ _ _ _ _ us hl => match us, hl with | [_], _ => rfl), .nil⟩
  · obtain ⟨_, _, _, rfl, _⟩ := h
    rfl
  · obtain ⟨p, us, ts, rfl, hp, hpd, hlen, k⟩ := h
    refine ⟨_, PSs.nox (pss_cons (ps_set (i := 1) sc_joined_texts.nd rfl (Or.inl rfl) (pe_lst pa_nil))
      (pss_cons (ps_for PassesOwn.never rfl (pi_list (pv 0)) (pg_name (i := 2) sc_joined_texts.nd rfl (Or.inl rfl))
        (pss_one (ps_if (RyN.pt_cut (PW.pt (pw_and (pt_val (pe_callB (id := "isinstance") call_isi (by rfl) T.f_isinstance (by decide +kernel) (pa_cons (pv 2) (pa_cons (pe_bltn (v := .ty "str") (by rfl) T.f_str (by decide +kernel) rfl) pa_nil)))) (pw_and (pt_cmpR (RyN.op_neNil hr.units) (pv 1) (pe_lst pa_nil) (nomark _)) (pw_and1 (pt_val (pe_callB (id := "isinstance") call_isi (by rfl) T.f_isinstance (by decide +kernel) (pa_cons (pe_ix ix_list (pv 1) (pe_un un_neg pe_int) (fun _ _ => rfl)) (pa_cons (pe_bltn (v := .ty "str") (by rfl) T.f_str (by decide +kernel) rfl) pa_nil)))))))))
          (pss_one (ps_augS (pv 1) (pe_un un_neg pe_int) RyN.get_neg (pv 2) (RyN.ip_of iop_add_str) set_list))
          (pss_one (ps_expr (pe_bm PySem.F.plainAttrs_list PySem.F.slot_list_append PySem.F.type_list_append mt_append (pv 1) (pa_cons (pv 2) pa_nil)))))))
      (pss_one (ps_ret (pe_callTy call_tuple_of (by rfl) T.f_tuple (by decide +kernel) (pa_cons (pv 1) pa_nil)))))), ?_⟩
    refine ⟨ssz rfl, fun f hf => ?_⟩
    have hpl : us.length = ts.length := Paired.length hpd
    refine ⟨_, rfl, ?_⟩
    refine ⟨p, rfl, ⟨us, SqL.of (upd_at hp hf)⟩, ?_⟩
    refine for_list (xs := us) (fun i σ' H' => ∃ o ws, σ' = [some (.ref p), some (.ref f), o] ∧ Same H H' ∧ H' f = some (.lst ws) ∧ Paired (JAt K H') ws (joinT (ts.take i)) ∧ (∀ l, JP.txt l ∈ joinT (ts.take i) → l.length ≤ i) ∧ (joinT (ts.take i)).length ≤ i) ⟨_, [], rfl, Same.nw hf, upd_same, .nil, (fun l h => nomatch h), Nat.le_refl _⟩ (fun i σ' H' _ ⟨o, ws, _, h, _⟩ => SqL.of (h _ _ hp)) ?_ ?_
    · rintro i x σ' H' hx ⟨o, ws, rfl, hsm, hws, hpw, hll, hcn⟩
      obtain ⟨t, ht, hxt0⟩ := Paired.nth hpd hx
      have hxt : TkAt K H' x t := hxt0.same hsm
      have hi : i < ts.length := by
        rcases Nat.lt_or_ge i ts.length with z | z
        · exact z
        · rw [List.getElem?_eq_none z] at ht
          cases ht
      have ejn := joinT_take ht
      have hwl : ws.length = (joinT (ts.take i)).length := Paired.length hpw
      refine ⟨fun b H2 => b = joins (joinT (ts.take i)) t ∧ Same H' H2, ?_, ?_⟩
      · obtain ⟨ty, hty, hk⟩ := TkAt.isStr T hxt
        refine ⟨_, rfl, _, _, ty, _, _, rfl, .ty _, hty, hk, _, rfl, ?_⟩
        cases t with
        | fld nm =>
          refine iteF ?_
          exact ⟨(joins_fld _ _).symm, Same.rfl'⟩
        | ch c =>
          refine iteT ?_
          refine ⟨_, rfl, ssz rfl, fun q hq => ?_⟩
          refine ⟨f, q, ws, rfl, rfl, SqL.of (upd_at hws hq), SqL.of upd_same, _, rfl, ?_⟩
          rcases List.eq_nil_or_concat (joinT (ts.take i)) with e0 | ⟨acc', j, e0⟩
          · rw [e0] at hpw ⊢
            cases hpw
            refine iteF ?_
            exact ⟨(joins_nil _).symm, Same.nw hq⟩
          · rw [List.concat_eq_append] at e0
            rw [e0] at hpw ⊢
            obtain ⟨ws', v, rfl, h1, h2⟩ := Paired.unsnoc hpw
            have hne : (!(ws' ++ [v]).isEmpty) = true := by simp
            rw [if_pos rfl, hne]
            refine iteT ?_
            obtain ⟨ty2, hty2, hk2⟩ := JAt.isStr T (h2.same (Same.nw hq))
            refine ⟨_, rfl, _, rfl, f, _, _, v, rfl, rfl, SqL.of (upd_at hws hq), atI_last _ _, ?_⟩
            refine ⟨_, _, ty2, _, _, rfl, .ty _, hty2, hk2, _, rfl, ?_⟩
            exact ⟨(joins_snoc _ _ _).symm, Same.nw hq⟩
      · rintro b H2 ⟨rfl, hs2⟩
        cases q : joins (joinT (ts.take i)) t with
        | true =>
          refine iteT ?_
          obtain ⟨acc', l, c, rfl, e0, e1⟩ := step_join q
          rw [e0] at hpw
          obtain ⟨ws', v, rfl, h1, h2⟩ := Paired.unsnoc hpw
          have hv : v = .str (tx l) := h2
          have hxc : x = .str (tx [c]) := hxt
          subst hv
          subst hxc
          have hll2 := hll l (by rw [e0]; exact List.mem_append_right _ (List.mem_cons_self ..))
          have hw2 := hs2 _ _ hws
          refine ⟨_, rfl, _, rfl, f, _, _, _, rfl, rfl, by decide, SqL.of hw2, atI_last _ _, ?_⟩
          refine ⟨_, rfl, _, _, rfl, rfl, by rw [tx_len, tx_len, sizeLine_eq, List.length_singleton]; omega, ?_⟩
          refine ⟨f, _, _, ws'.length, rfl, rfl, hw2, by rw [List.length_append, List.length_singleton]; exact ixN_last _, ?_⟩
          have es : (ws' ++ [V.str (tx l)]).set ws'.length (.str (tx l ++ tx [c])) = ws' ++ [.str (tx (l ++ [c]))] := by
            rw [tx_app, List.set_append_right _ _ (Nat.le_refl _), Nat.sub_self]
            rfl
          rw [es]
          refine ⟨_, _, rfl, Same.wr (Same.tr hsm hs2) hf, upd_same, ?_, ?_, ?_⟩
          · rw [ejn, e1]
            exact Paired.snoc' (show JAt K _ _ (.txt (l ++ [c])) from rfl) (Paired.impl h1 fun _ _ z => JAt.upd (z.same hs2) hw2)
          · rw [ejn]
            exact joinStep_len hll
          · rw [ejn]
            exact Nat.le_trans (joinStep_cnt _ _) (Nat.succ_le_succ hcn)
        | false =>
          refine iteF ?_
          have e2 := step_app q
          refine ⟨_, rfl, .inl ⟨rfl, _, SqL.of (hs2 _ _ hws)⟩, _, rfl, f, _, _, rfl, rfl, hs2 _ _ hws, by rw [hwl, sizeLine_eq]; omega, ?_⟩
          refine ⟨_, ws ++ [x], rfl, Same.wr (Same.tr hsm hs2) hf, upd_same, ?_, ?_, ?_⟩
          · rw [ejn, e2]
            refine Paired.snoc' ?_ (Paired.impl hpw fun _ _ z => JAt.upd (z.same hs2) (hs2 _ _ hws))
            cases t with
            | ch c => exact hxt
            | fld nm => exact JAt.upd (t := .fld nm) (FldAt.same hxt hs2) (hs2 _ _ hws)
          · rw [ejn]
            exact joinStep_len hll
          · rw [ejn]
            exact Nat.le_trans (joinStep_cnt _ _) (Nat.succ_le_succ hcn)
    · rintro σ' H' ⟨o, ws, rfl, hsm, hws, hpw, hll, hcn⟩
      rw [hpl, List.take_length] at hpw
      refine ⟨_, rfl, f, ws, rfl, .inl ⟨SqL.of hws, fun q hq => ?_⟩⟩
      exact k q ws _ upd_same (Paired.impl hpw fun _ _ z => z.same (Same.nw hq)) (Same.tr hsm (Same.nw hq))
end
end Ry
namespace Ry
open PySem PySem.Spec PyProof.Rows L2 He RyH
open C8 (pss_cut tCut Cal Met Mak pe_c pe_mk pe_mt pe_mt0 pe_gc)
/-! ### a formatter -/
theorem pe_nev {X : Cx} {e : Expr} : PE X e (fun _ _ _ => False) := ⟨fun _ _ _ _ _ _ h => h.elim⟩
abbrev kV' (z : Str) : Key := Sum.inr z
/-- x not in d: d a dict of the module -/
theorem op_notInK {X : Cx} {a : Addr} {kvs : List (Key × V)} (c : ∀ h : Heap, X.K.In h → (a == sysModules) = false ∧ ∃ vs, KV kvs vs ∧ h.DictOf (mixKind X.prog X.w) a vs) :
    OpR X (compareOp .NotIn) (fun x y H Q => ∃ z : Str, x = .str z ∧ y = .ref a ∧ Q (.bl (!(valV kvs (kV' z)).isSome)) H) := by
  intro pins s σ H x y v u Q I rx ry h
  obtain ⟨z, rfl, rfl, q⟩ := h
  obtain ⟨t, rfl⟩ := rx
  cases ry
  obtain ⟨lo, vs, rel, dd⟩ := c s.heap I.kIn
  refine wpAny_notIn_of (mixKind_str X.prog X.w z t) lo dd.mapOf ?_
  have e : (valueAt vs (Sum.inr z)).isSome = (valV kvs (kV' z)).isSome := by
    have r : RelO (valV kvs (kV' z)) (valueAt vs (Sum.inr z)) := rel.val (Sum.inr z)
    cases q1 : valV kvs (kV' z) with
    | none =>
      rw [q1] at r
      rw [RelO.none_of r]
      rfl
    | some x =>
      rw [q1] at r
      obtain ⟨w', hw, _⟩ := RelO.some_of r
      rw [hw]
      rfl
  refine ⟨.bl _, H, I.tok _, rfl, ?_⟩
  rw [e]
  exact q
def enc (b : Bool) : Tk → List Nat := if b then encB else encD
def tok1 : FP → List Tk
  | .txt x => x.cps.toList.map Tk.ch
  | .mark x => [.fld x.cps.toList]
def toks (ps : List FP) : List Tk := ps.flatMap tok1
theorem part_txt : ∀ x ∈ txtMenu, partText true (.txt x) = tx ((tok1 (.txt x)).flatMap encB) ∧ partText false (.txt x) = tx ((tok1 (.txt x)).flatMap encD) := by decide +kernel
theorem part_mark : ∀ x ∈ markMenu, partText true (.mark x) = tx ((tok1 (.mark x)).flatMap encB) ∧ partText false (.mark x) = tx ((tok1 (.mark x)).flatMap encD) := by decide +kernel
theorem mark_let : ∀ x ∈ markMenu, x.cps.toList ≠ [] ∧ ∀ c ∈ x.cps.toList, isIn letters c = true := by decide +kernel
theorem part_tok {b : Bool} {p : FP} (h : p.ok) : partText b p = tx ((tok1 p).flatMap (enc b)) := by
  cases p with
  | txt x => cases b <;> first | exact (part_txt x h).1 | exact (part_txt x h).2
  | mark x => cases b <;> first | exact (part_mark x h).1 | exact (part_mark x h).2
theorem fmt_tok {b : Bool} : ∀ {ps : List FP} {acc : List Nat}, (∀ p ∈ ps, p.ok) → ps.foldl (fun acc p => acc ++ partText b p) (tx acc) = tx (acc ++ (toks ps).flatMap (enc b))
  | [], acc, _ => by simp [toks]
  | p :: ps, acc, h => by
    rw [List.foldl_cons, part_tok (h p (List.mem_cons_self ..)), tx_app, fmt_tok fun q hq => h q (List.mem_cons_of_mem _ hq)]
    unfold toks
    rw [List.flatMap_cons, List.flatMap_append, List.append_assoc]
theorem fmtText_tok {b : Bool} {ps : List FP} (h : ∀ p ∈ ps, p.ok) : fmtText b ps = tx ((toks ps).flatMap (enc b)) := fmt_tok (acc := []) h
theorem toks_ok {ps : List FP} (h : ∀ p ∈ ps, p.ok) : ∀ t ∈ toks ps, t.ok := fun t ht => by
  obtain ⟨p, hp, hq⟩ := List.mem_flatMap.mp ht
  cases p with
  | txt x =>
    obtain ⟨c, _, rfl⟩ := List.mem_map.mp hq
    exact True.intro
  | mark x =>
    rw [List.mem_singleton.mp hq]
    exact mark_let x (h _ hp)
theorem enc_pos (b : Bool) (t : Tk) : 1 ≤ (enc b t).length := by cases b <;> first | exact encB_pos t | exact encD_pos t
theorem toks_len {b : Bool} {ps : List FP} (h : ∀ p ∈ ps, p.ok) (hl : ps.length ≤ 100) : ((toks ps).flatMap (enc b)).length ≤ 2000 ∧ (toks ps).length ≤ 2000 := by
  have h1 := fmt_len' (b := b) h
  rw [fmtText_tok h, tx_len] at h1
  have h2 := dlen_le (enc := enc b) (toks ps) fun t _ => enc_pos b t
  omega
theorem toks_all {ps : List FP} (h : ps.any FP.isMark = true) : (toks ps).all Tk.isCh = false := by
  obtain ⟨p, hp, hm⟩ := List.any_eq_true.mp h
  rw [List.all_eq_false]
  cases p with
  | txt x => cases hm
  | mark x => exact ⟨.fld x.cps.toList, List.mem_flatMap.mpr ⟨_, hp, List.mem_singleton.mpr rfl⟩, by simp [Tk.isCh]⟩
abbrev fmF (text : Str) (b : Bool) (q dd : Addr) : List (Str × V) := [("fmt", .str text), ("style", .str (styleOf b)), ("parts", .ref q), ("defaults", .ref dd)]
theorem pf_m2 (a b : V) : putF "style" b [("fmt", a)] = ([("fmt", a), ("style", b)] : List (Str × V)) := by kernel_rfl
theorem pf_m3 (a b c : V) : putF "parts" c [("fmt", a), ("style", b)] = ([("fmt", a), ("style", b), ("parts", c)] : List (Str × V)) := by kernel_rfl
theorem pf_m4 (a b c d : V) : putF "defaults" d [("fmt", a), ("style", b), ("parts", c)] = ([("fmt", a), ("style", b), ("parts", c), ("defaults", d)] : List (Str × V)) := by kernel_rfl
theorem alone_in (b : Bool) : (valV kvAlone (kV' (styleOf b))).isSome = true := by cases b <;> kernel_rfl
/-- a formatter of that format -/
def FmAt (K : PySem.W.Frag) (H : Hp) (a : Addr) (b : Bool) (ps : List FP) (dd : Addr) : Prop := ∃ dx q js, H a = some (.ins (ga K "Formatter") dx (fmF (fmtText b ps) b q dd)) ∧ H q = some (.tup js) ∧ Paired (JAt K H) js (joinT (toks ps)) ∧ H dd = some (.dK [])
def spFormatterInit (K : PySem.W.Frag) : Sp := fun vs H Q _ => ∃ (a dx : Addr) (b : Bool) (ps : List FP), vs = [.ref a, .str (fmtText b ps), .str (styleOf b), .bl (ps.any FP.isMark), .non] ∧ H a = some (.ins (ga K "Formatter") dx []) ∧ (∀ p ∈ ps, p.ok) ∧ ps.length ≤ 100 ∧
  ∀ dd H', H dd = none → FmAt K H' a b ps dd → Kp (fun c => c = a) H H' → Q .non H'
theorem FldAt.off {K : PySem.W.Frag} {H : Hp} {v : V} {nm : List Nat} {a C dx : Addr} {fs : List (Str × V)} {o : HO} (h : FldAt K H v nm) (hp : H a = some (.ins C dx fs)) (h5 : fs.length ≠ 5) : FldAt K (L2.upd H a o) v nm := by
  obtain ⟨b, d, e, q⟩ := h
  refine ⟨b, d, e, ?_⟩
  rw [upd_ne (ne_of q hp fun z => ?_)]
  · exact q
  · injection z with _ _ z
    rw [← z] at h5
    exact h5 rfl
theorem TkAt.off {K : PySem.W.Frag} {H : Hp} {v : V} {t : Tk} {a C dx : Addr} {fs : List (Str × V)} {o : HO} (h : TkAt K H v t) (hp : H a = some (.ins C dx fs)) (h5 : fs.length ≠ 5) : TkAt K (L2.upd H a o) v t := by
  cases t with
  | ch c => exact h
  | fld nm => exact FldAt.off h hp h5
theorem JAt.off {K : PySem.W.Frag} {H : Hp} {v : V} {t : JP} {a C dx : Addr} {fs : List (Str × V)} {o : HO} (h : JAt K H v t) (hp : H a = some (.ins C dx fs)) (h5 : fs.length ≠ 5) : JAt K (L2.upd H a o) v t := by
  cases t with
  | txt c => exact h
  | fld nm => exact FldAt.off h hp h5
section
variable {P : Program} {w : World} {K : PySem.W.Frag} {mg : Str → Option Value} {base : Heap}
theorem sc_Formatter_init : FnScope ["self", "fmt", "style", "validate", "defaults", "text", "parts", "part"] ["self", "fmt", "style", "validate", "defaults"] (defScope s_Formatter_init) := ⟨rfl, rfl, rfl, by decide +kernel, rfl, by decide +kernel, by decide +kernel⟩
theorem fn_Formatter_init (T : Txt w K mg) : ∃ fd, FnOk P w K mg base CX0 5 (ma K (ga K "Formatter") "__init__") fd ["self", "fmt", "style", "validate", "defaults"] (spFormatterInit K) ∧ FunD K "__init__" "Formatter.__init__" (defArgs s_Formatter_init) (defBody s_Formatter_init) (defScope s_Formatter_init) (He.DefD.dvs K d_Formatter_init) [] (ma K (ga K "Formatter") "__init__") fd := by
  obtain ⟨fd, F⟩ := T.df_Formatter_init
  have c_parts_of_braces := cal_parts_of_braces (P := P) (base := base) T
  have c_parts_of_dollars := cal_parts_of_dollars (P := P) (base := base) T
  have c_joined_texts := cal_joined_texts (P := P) (base := base) T
  refine ⟨fd, F.ok sc_Formatter_init (fun vs H Q E h => ?_) (fun cdv A outer s H vs Q E hr h => ?_), F⟩
  · obtain ⟨_, _, _, _, rfl, _⟩ := h
    rfl
  · obtain ⟨a, dx, b, ps, rfl, ha, hok, hlen, k⟩ := h
    refine ⟨_, PSs.nox (pss_cons (ps_if (PW.pt (pw_or (pt_not (pt_val (pe_callB (id := "isinstance") call_isi (by rfl) T.f_isinstance (by decide +kernel) (pa_cons (pv 2) (pa_cons (pe_bltn (v := .ty "str") (by rfl) T.f_str (by decide +kernel) rfl) pa_nil))))) (pw_or1 (pt_cmpR (op_notInK (kvs := kvAlone) fun h X => T.d_ALONE X) (pv 2) (pe_gc (by rfl) (T.gv_MESSAGE_ALONE)) rfl))))
        (pss_one ps_never)
        pss_nil)
      (pss_cons (ps_set (i := 5) sc_Formatter_init.nd rfl (Or.inl rfl) (RyT.pe_cutE (pe_ifExp (pt_cmpR op_isN (pv 1) pe_non (nomark _)) pe_nev (pv 1))))
      (pss_cons (ps_set (i := 6) sc_Formatter_init.nd rfl (Or.inl rfl) (RyT.pe_cutE (pe_ifExp (pt_cmpR op_eq (pv 2) pe_str (nomark _)) (pe_c c_parts_of_braces hr (by decide) (by rfl) (pa_cons (pv 5) pa_nil)) (pe_c c_parts_of_dollars hr (by decide) (by rfl) (pa_cons (pv 5) pa_nil)))))
      (pss_cons (ps_if (RyN.pt_cut (PW.pt (pw_or (pt_cmpR op_isN (pv 6) pe_non (nomark _)) (pw_or1 (PW.pt (pw_and (pt_val (pv 3)) (pw_and1 (pt_val (pe_callB (id := "all") (cr_all rfl) (by rfl) T.f_all (by decide +kernel) (pa_cons (pe_lc (own := [("part", 7)]) rfl sc_Formatter_init.nd (pi_list (pv 6)) (blkOk_by (N := ["self", "fmt", "style", "validate", "defaults", "text", "parts", "part"]) (sc := defScope s_Formatter_init) (own := [("part", 7)]) (by decide +kernel)) (fun _ _ _ _ _ => pg_name (i := 7) sc_Formatter_init.nd rfl (Or.inl rfl)) (fun _ _ _ _ _ => pts_nil) (fun _ _ _ _ _ => (pe_callB (id := "isinstance") (r := rIsi K) call_isi (by rfl) T.f_isinstance (by decide +kernel) (pa_cons (pv 7) (pa_cons (pe_bltn (v := .ty "str") (by rfl) T.f_str (by decide +kernel) rfl) pa_nil))))) pa_nil))))))))))
        (pss_one ps_never)
        pss_nil)
      (pss_cons (ps_fld (pv 0) (pv 1) rfl)
      (pss_cons (ps_fld (pv 0) (pv 2) rfl)
      (pss_cons (ps_fld (pv 0) (pe_c c_joined_texts hr (by decide) (by rfl) (pa_cons (pv 6) pa_nil)) rfl)
      (pss_one (ps_fld (pv 0) (RyT.pe_cutE (pe_ifExp (pt_cmpR op_isN (pv 4) pe_non (nomark _)) pe_dnewK pe_nev)) rfl))))))))), ?_⟩
    obtain ⟨ht1, ht2⟩ := toks_len (b := b) hok hlen
    refine ⟨_, rfl, _, _, _, _, _, rfl, .ty _, .base (.str _), kit_ty (show kitB "str" "str" = some true by decide +kernel), _, rfl, ?_⟩
    refine iteF ?_
    refine ⟨_, rfl, _, rfl, rfl, false, congrArg V.bl (by rw [alone_in]; rfl), iteF ?_⟩
    -- text
    refine ⟨fun v H2 => v = .str (fmtText b ps) ∧ H = H2, ⟨_, rfl, rfl, _, rfl, iteF ⟨_, rfl, rfl, rfl⟩⟩, ?_⟩
    rintro _ _ ⟨rfl, rfl⟩
    -- parts
    refine ⟨fun v H2 => ∃ p us, v = .ref p ∧ H p = none ∧ H2 p = some (.lst us) ∧ Paired (TkAt K H2) us (toks ps) ∧ Same H H2, ?_, ?_⟩
    · refine ⟨_, rfl, rfl, _, rfl, ?_⟩
      rw [style_eq]
      cases b with
      | true => exact iteT ⟨_, rfl, toks ps, by rw [fmtText_tok hok]; rfl, Nat.le_trans ht1 (by decide), toks_ok hok, fun p us H' h1 h2 h3 h4 => ⟨p, us, rfl, h1, h2, h3, h4⟩⟩
      | false => exact iteF ⟨_, rfl, toks ps, by rw [fmtText_tok hok]; rfl, Nat.le_trans ht1 (by decide), toks_ok hok, fun p us H' h1 h2 h3 h4 => ⟨p, us, rfl, h1, h2, h3, h4⟩⟩
    rintro _ H1 ⟨p, us, rfl, hp0, hp, hpd, hs1⟩
    -- is it refused
    refine ⟨fun c H2 => c = false ∧ Same H1 H2, ?_, ?_⟩
    · refine ⟨_, rfl, rfl, false, congrArg V.bl (decide_eq_false fun z => nomatch z), iteF ?_⟩
      refine ⟨_, rfl, _, rfl, ?_⟩
      cases em : ps.any FP.isMark with
      | false =>
        refine iteF ?_
        exact ⟨rfl, Same.rfl'⟩
      | true =>
        refine iteT ?_
        refine ⟨_, rfl, ?_⟩
        refine ⟨p, rfl, ⟨us, SqL.of hp⟩, ?_⟩
        intro D hD
        have hul : us.length = (toks ps).length := Paired.length hpd
        refine lc_list (xs := us) (fun i H' => Same H1 H' ∧ H' D = some (.lst ((((toks ps).take i).map Tk.isCh).map V.bl))) ⟨Same.nw hD, upd_same⟩ (fun i H' _ h => SqL.of (h.1 _ _ hp)) ?_ ?_
        · rintro i x H' hx ⟨k1, h1⟩
          obtain ⟨t, ht, hxt⟩ := Paired.nth hpd hx
          refine ⟨rfl, ?_⟩
          refine ⟨_, rfl, ?_⟩
          obtain ⟨ty, hty, hk⟩ := TkAt.isStr T (hxt.same k1)
          refine ⟨_, _, ty, _, _, rfl, .ty _, hty, hk, ?_⟩
          refine ⟨_, h1, by rw [List.length_map, List.length_map, List.length_take, sizeLine_eq]; omega, Same.wr k1 hD, ?_⟩
          rw [upd_same, take_nth ht, List.map_append, List.map_append]
          rfl
        · rintro H' ⟨k1, h1⟩
          refine ⟨D, _, rfl, SqL.of h1, ?_⟩
          have e : (((toks ps).take us.length).map Tk.isCh).all id = false := by
            rw [hul, List.take_length, List.all_map]
            exact toks_all em
          exact ⟨_, rfl, e, k1⟩
    rintro _ H2 ⟨rfl, hs2⟩
    refine iteF ?_
    have h2a := hs2 _ _ (hs1 _ _ ha)
    have h2p := hs2 _ _ hp
    have hpa : p ≠ a := ne_of h2p h2a (fun z => nomatch z)
    refine ⟨_, rfl, _, rfl, a, _, dx, _, rfl, h2a, T.cl_Formatter, T.no_Formatter_fmt, csz rfl, ?_⟩
    refine ⟨_, rfl, _, rfl, a, _, dx, _, rfl, upd_same, T.cl_Formatter, T.no_Formatter_style, csz rfl, ?_⟩
    rw [upd_upd, show putF "fmt" (.str (fmtText b ps)) ([] : List (Str × V)) = ([("fmt", .str (fmtText b ps))] : List (Str × V)) from rfl, pf_m2]
    refine ⟨_, rfl, p, us, toks ps, rfl, by rw [upd_ne hpa]; exact h2p, Paired.impl hpd fun _ _ z => TkAt.off (z.same hs2) h2a (by decide), Nat.le_trans ht2 (by decide), fun q js H3 hq hj hs3 => ?_⟩
    have h3a := hs3 _ _ upd_same
    have hqa : q ≠ a := ne_of hq h3a (fun z => nomatch z)
    refine ⟨_, rfl, a, _, dx, _, rfl, h3a, T.cl_Formatter, T.no_Formatter_parts, csz rfl, ?_⟩
    rw [pf_m3]
    refine ⟨fun v H4 => ∃ dd, v = .ref dd ∧ L2.upd H3 a (.ins (ga K "Formatter") dx [("fmt", .str (fmtText b ps)), ("style", .str (styleOf b)), ("parts", .ref q)]) dd = none ∧ L2.upd (L2.upd H3 a (.ins (ga K "Formatter") dx [("fmt", .str (fmtText b ps)), ("style", .str (styleOf b)), ("parts", .ref q)])) dd (.dK []) = H4, ⟨_, rfl, rfl, _, rfl, iteT fun dd hdd => ⟨dd, rfl, hdd, rfl⟩⟩, ?_⟩
    rintro _ H4 ⟨dd, rfl, hdd, rfl⟩
    refine ⟨_, rfl, a, _, dx, _, rfl, upd_at upd_same hdd, T.cl_Formatter, T.no_Formatter_defaults, csz rfl, ?_⟩
    rw [pf_m4]
    have hda : dd ≠ a := fun z => by rw [z, upd_same] at hdd; cases hdd
    have hd3 : H3 dd = none := was_none hdd
    have hqd : q ≠ dd := ne_of_none hq hd3
    have hdH : H dd = none := Same.was hs1 (Same.was hs2 (was_none (Same.was hs3 hd3)))
    refine k dd _ hdH ⟨dx, q, js, upd_same, ?_, ?_, ?_⟩ ?_
    · rw [upd_ne hqa, upd_ne hqd, upd_ne hqa]
      exact hq
    · exact Paired.impl hj fun _ _ z => JAt.off (JAt.same (JAt.off z h3a (by simp)) (Same.nw hdd)) (upd_at upd_same hdd) (by simp)
    · rw [upd_ne hda, upd_same]
    · exact ((((((Kp.same (M := fun c => c = a) hs1).trans (Kp.same hs2)).trans (Kp.at rfl)).trans (Kp.same hs3)).trans (Kp.at rfl)).trans (Kp.new hdd)).trans (Kp.at rfl)
theorem mk_Formatter (T : Txt w K mg) : Mak P w K mg base 5 "Formatter" (ga K "Formatter") (spFormatterInit K) [.non] := by
  obtain ⟨fd, f, F⟩ := fn_Formatter_init (P := P) (base := base) T
  obtain ⟨ds, hV, hB⟩ := F.binds1 (ps := ["self", "fmt", "style", "validate", "defaults"]) 4 3 (fun z => nomatch z) rfl (fun _ _ _ _ _ _ _ us its h1 h2 => match us, its, h1, h2 with | [_, _, _, _], [_, _, _, _], _, _ => ⟨_, rfl, rfl⟩)
  refine ⟨_, fd, _, _, T.mk_Formatter, ?_, T.m_Formatter, hB, hV⟩
  exact f
end
end Ry
namespace Ry
open PySem PySem.Spec PyProof.Rows L2 He RyH
open C8 (pss_cut tCut Cal Met Mak pe_c pe_mk pe_mt pe_mt0 pe_gc)
/-! ### names of loggers -/
def signs : Str := "abcdefghijklmnopqrstuvwxyzABCDEFGHIJKLMNOPQRSTUVWXYZ0123456789_"
def isPartB (z : Str) : Bool := !decide (V.str z = V.str "") && z.cps.toList.all (isIn signs)
def arePartsB (z : Str) : Bool := (Txt.split z ".").all isPartB
theorem parts_menu : ∀ x ∈ logMenu, arePartsB x = true ∧ x.length ≤ 20 ∧ (Txt.split x ".").all (fun y => decide (y.length ≤ 20)) = true ∧ (Txt.split x ".").length ≤ 10 := by decide +kernel
def spIsPart : Sp := fun vs H Q _ => ∃ (z : Str), vs = [.str z] ∧ z.length ≤ 1000 ∧ ∀ H', Same H H' → Q (.bl (isPartB z)) H'
def spAreParts : Sp := fun vs H Q _ => ∃ (z : Str), vs = [.str z] ∧ z ∈ logMenu ∧ ∀ H', Same H H' → Q (.bl true) H'
section
variable {P : Program} {w : World} {K : PySem.W.Frag} {mg : Str → Option Value} {base : Heap}
theorem sc_is_part : FnScope ["text", "sign"] ["text"] (defScope s_is_part) := ⟨rfl, rfl, rfl, by decide +kernel, rfl, by decide +kernel, by decide +kernel⟩
theorem cal_is_part (T : Txt w K mg) : Cal P w K mg base 1 "is_part" (spIsPart) [] := by
  obtain ⟨fd, F⟩ := T.df_is_part
  refine ⟨_, fd, ["text"], [], F.ok sc_is_part (fun vs H Q E h => ?_) (fun cdv A outer s H vs Q E hr h => ?_), T.m_is_part, F.kp, F.bindsN (fun _ _ _ _ _ _ us hl => match us, hl with | [_], _ => rfl), .nil⟩
  · obtain ⟨_, rfl, _⟩ := h
    rfl
  · obtain ⟨z, rfl, hz, k⟩ := h
    refine ⟨_, PSs.nox (pss_one (ps_ret (pe_and (pe_cmpR op_ne (pv 0) pe_str (nomark _)) (pe_one (pe_callB (id := "all") (cr_all rfl) (by rfl) T.f_all (by decide +kernel) (pa_cons (pe_lc (own := [("sign", 1)]) rfl sc_is_part.nd (pi_str (pv 0)) (blkOk_by (N := ["text", "sign"]) (sc := defScope s_is_part) (own := [("sign", 1)]) (by decide +kernel)) (fun _ _ _ _ _ => pg_name (i := 1) sc_is_part.nd rfl (Or.inl rfl)) (fun _ _ _ _ _ => pts_nil) (fun _ _ _ _ _ => (pe_cmpR op_in_str (pv 1) (pe_gc (by rfl) (T.c_SIGNS)) rfl))) pa_nil)))))), ?_⟩
    refine ⟨_, rfl, rfl, _, rfl, ?_⟩
    cases e : decide (V.str z = V.str "") with
    | true =>
      refine iteF ?_
      have k' := k H Same.rfl'
      unfold isPartB at k'
      rw [e] at k'
      exact k'
    | false =>
      refine iteT ?_
      refine ⟨_, rfl, ?_⟩
      refine ⟨z, rfl, fun D hD => ?_⟩
      have hzl : z.cps.toList.length ≤ 1000 := by rw [Array.length_toList]; exact hz
      refine lc_it (walk_str (z := z)) (fun i H' => Same H H' ∧ H' D = some (.lst (((z.cps.toList.take i).map (isIn signs)).map V.bl))) ⟨Same.nw hD, upd_same⟩ (fun _ _ _ _ => True.intro) ?_ ?_
      · rintro i x H1 H2 hi ⟨k1, h1⟩ ⟨rfl, c, hc, rfl⟩
        have hc2 : z.cps.toList[i]? = some c := by rw [Array.getElem?_toList]; exact hc
        refine ⟨rfl, ?_⟩
        refine ⟨_, rfl, _, _, rfl, rfl, ?_⟩
        refine ⟨_, h1, by rw [List.length_map, List.length_map, List.length_take, sizeLine_eq]; omega, Same.wr k1 hD, ?_⟩
        rw [upd_same, take_nth hc2, List.map_append, List.map_append]
        rfl
      · rintro H' ⟨k1, h1⟩
        refine ⟨D, _, rfl, SqL.of h1, ?_⟩
        have k' := k H' k1
        unfold isPartB at k'
        rw [e] at k'
        have e2 : ((z.cps.toList.take z.cps.size).map (isIn signs)).all id = z.cps.toList.all (isIn signs) := by
          rw [← Array.length_toList, List.take_length, List.all_map]
          rfl
        rw [e2]
        exact k'
theorem sc_are_parts : FnScope ["thing", "part"] ["thing"] (defScope s_are_parts) := ⟨rfl, rfl, rfl, by decide +kernel, rfl, by decide +kernel, by decide +kernel⟩
theorem cal_are_parts (T : Txt w K mg) : Cal P w K mg base 2 "are_parts" (spAreParts) [] := by
  obtain ⟨fd, F⟩ := T.df_are_parts
  have c_is_part := cal_is_part (P := P) (base := base) T
  refine ⟨_, fd, ["thing"], [], F.ok sc_are_parts (fun vs H Q E h => ?_) (fun cdv A outer s H vs Q E hr h => ?_), T.m_are_parts, F.kp, F.bindsN (fun _ _ _ _ _ _ us hl => match us, hl with | [_], _ => rfl), .nil⟩
  · obtain ⟨_, rfl, _⟩ := h
    rfl
  · obtain ⟨z, rfl, hz, k⟩ := h
    refine ⟨_, PSs.nox (pss_one (ps_ret (pe_and (pe_callB (id := "isinstance") call_isi (by rfl) T.f_isinstance (by decide +kernel) (pa_cons (pv 0) (pa_cons (pe_bltn (v := .ty "str") (by rfl) T.f_str (by decide +kernel) rfl) pa_nil))) (pe_one (pe_callB (id := "all") (cr_all rfl) (by rfl) T.f_all (by decide +kernel) (pa_cons (pe_lc (own := [("part", 1)]) rfl sc_are_parts.nd (pi_list (pe_split (pv 0) pe_str)) (blkOk_by (N := ["thing", "part"]) (sc := defScope s_are_parts) (own := [("part", 1)]) (by decide +kernel)) (fun _ _ _ _ _ => pg_name (i := 1) sc_are_parts.nd rfl (Or.inl rfl)) (fun _ _ _ _ _ => pts_nil) (fun _ _ _ _ _ => (pe_c c_is_part hr (by decide) (by rfl) (pa_cons (pv 1) pa_nil)))) pa_nil)))))), ?_⟩
    obtain ⟨h1', h2, h3, h4⟩ := parts_menu z hz
    refine ⟨_, rfl, _, _, _, _, _, rfl, .ty _, .base (.str z), kit_ty (show kitB "str" "str" = some true by decide +kernel), ?_⟩
    refine ⟨_, rfl, ?_⟩
    refine iteT ?_
    refine ⟨_, rfl, ⟨_, rfl⟩, _, _, rfl, rfl, rfl, by rw [sizeLine_eq]; omega, fun p hp => ?_⟩
    refine ⟨p, rfl, ⟨_, SqL.of upd_same⟩, ?_⟩
    intro D hD
    have hDp : p ≠ D := ne_of_none upd_same hD
    have hD0 : H D = none := was_none hD
    refine lc_list (xs := (Txt.split z ".").map V.str) (fun i H' => Same (L2.upd H p (.lst ((Txt.split z ".").map V.str))) H' ∧ H' D = some (.lst ((((Txt.split z ".").take i).map isPartB).map V.bl))) ⟨Same.nw hD, upd_same⟩ (fun i H' _ h => SqL.of (h.1 _ _ upd_same)) ?_ ?_
    · rintro i x H' hx ⟨k1, h1⟩
      obtain ⟨y, hy, rfl⟩ : ∃ y, (Txt.split z ".")[i]? = some y ∧ x = .str y := by
        rw [List.getElem?_map] at hx
        cases q : (Txt.split z ".")[i]? with
        | none => rw [q] at hx; cases hx
        | some y => rw [q] at hx; exact ⟨y, rfl, (Option.some.inj hx).symm⟩
      have hyl : y.length ≤ 20 := of_decide_eq_true (List.all_eq_true.mp h3 y (List.mem_of_getElem? hy))
      refine ⟨rfl, ?_⟩
      refine ⟨_, rfl, y, rfl, by omega, fun H2 hs2 => ?_⟩
      refine ⟨_, hs2 _ _ h1, by rw [List.length_map, List.length_map, List.length_take, sizeLine_eq]; omega, Same.wr (Same.tr k1 hs2) hD, ?_⟩
      rw [upd_same, take_nth hy, List.map_append, List.map_append]
      rfl
    · rintro H' ⟨k1, h1⟩
      refine ⟨D, _, rfl, SqL.of h1, ?_⟩
      have e : ((((Txt.split z ".").take ((Txt.split z ".").map V.str).length).map isPartB)).all id = true := by
        rw [List.length_map, List.take_length, List.all_map]
        exact h1'
      rw [e]
      exact k H' (Same.tr (Same.nw hp) k1)
end
end Ry
namespace Ry
open PySem PySem.Spec PyProof.Rows L2 He RyH
open C8 (pss_cut tCut Cal Met Mak pe_c pe_mk pe_mt pe_mt0 pe_gc)
/-! ### parents -/
/-- the nearest one above that stands in the map -/
def parF (rows : List (Str × Addr)) (rt : Addr) (parts : List Str) : Nat → Addr
  | 0 => rt
  | k + 1 => match rows.lookup (Txt.join "." (parts.take (k + 1))) with
    | some a => a
    | none => parF rows rt parts k
def parentA (rows : List (Str × Addr)) (rt : Addr) (nm : Str) : Addr := parF rows rt (Txt.split nm ".") ((Txt.split nm ".").length - 1)
theorem valV_row (k : Str) : ∀ rows : List (Str × Addr), valV (rows.map rowE) (kS k) = (rows.lookup k).map V.ref
  | [] => rfl
  | r :: rows => by
    rw [List.map_cons]
    by_cases e : r.1 = k
    · rw [valV_pos (p := rowE r) (by show Sum.inr r.1 = Sum.inr k; rw [e])]
      obtain ⟨a, b⟩ := r
      cases e
      rw [List.lookup_cons_self]
      rfl
    · rw [valV_neg (p := rowE r) (fun z => e (Sum.inr.inj z)), valV_row k rows]
      obtain ⟨a, b⟩ := r
      have e2 : (k == a) = false := beq_eq_false_iff_ne.mpr fun z => e z.symm
      rw [List.lookup_cons, e2]
theorem split_pos : ∀ x ∈ logMenu, 1 ≤ (Txt.split x ".").length := by decide +kernel
theorem join_menu : ∀ x ∈ logMenu, ∀ k < 11, ((((Txt.split x ".").take k).map (·.length)).sum + ((Txt.split x ".").take k).length * 1) ≤ 1000 := by decide +kernel
/-- the yard's object tells the map and the root -/
structure YMap (K : PySem.W.Frag) (H : Hp) (y lm rt : Addr) (fy : List (Str × V)) (rows : List (Str × Addr)) : Prop where
  ins : YIns K H y fy
  mapF : lk fy "logger_map" = some (.ref lm)
  rootF : lk fy "root" = some (.ref rt)
  at_ : H lm = some (.dK (rows.map rowE))
theorem YMap.same {K : PySem.W.Frag} {H H' : Hp} {y lm rt : Addr} {fy : List (Str × V)} {rows : List (Str × Addr)} (h : YMap K H y lm rt fy rows) (k : Same H H') : YMap K H' y lm rt fy rows := by
  obtain ⟨⟨dy, e⟩, a, b, c⟩ := h
  exact ⟨⟨dy, k _ _ e⟩, a, b, k _ _ c⟩
def spParentOf (K : PySem.W.Frag) : Sp := fun vs H Q _ => ∃ (y lm rt : Addr) (fy : List (Str × V)) (rows : List (Str × Addr)) (nm : Str), vs = [.ref y, .str nm] ∧ YMap K H y lm rt fy rows ∧ nm ∈ logMenu ∧ ∀ H', Same H H' → Q (.ref (parentA rows rt nm)) H'
section
variable {P : Program} {w : World} {K : PySem.W.Frag} {mg : Str → Option Value} {base : Heap}
theorem sc_parent_of : FnScope ["yard", "name", "parts", "many", "above"] ["yard", "name"] (defScope s_parent_of) := ⟨rfl, rfl, rfl, by decide +kernel, rfl, by decide +kernel, by decide +kernel⟩
theorem cal_parent_of (T : Txt w K mg) : Cal P w K mg base 1 "parent_of" (spParentOf K) [] := by
  obtain ⟨fd, F⟩ := T.df_parent_of
  refine ⟨_, fd, ["yard", "name"], [], F.ok sc_parent_of (fun vs H Q E h => ?_) (fun cdv A outer s H vs Q E hr h => ?_), T.m_parent_of, F.kp, F.bindsN (fun _ _ _ _ _ _ us hl => match us, hl with | [_, _], _ => rfl), .nil⟩
  · obtain ⟨_, _, _, _, _, _, rfl, _⟩ := h
    rfl
  · obtain ⟨y, lm, rt, fy, rows, nm, rfl, hy, hnm, k⟩ := h
    refine ⟨_, PSs.nox (pss_cons (ps_set (i := 2) sc_parent_of.nd rfl (Or.inl rfl) (pe_split (pv 1) pe_str))
      (pss_cons (ps_for PassesOwn.never rfl (pi_range3 (by rfl) T.f_range (pa_cons (pe_op op_sub (pe_callB (id := "len") call_len_seq (by rfl) T.f_len PySem.boot_len (pa_cons (pv 2) pa_nil)) pe_int) (pa_cons pe_int (pa_cons (pe_un un_neg pe_int) pa_nil)))) (pg_name (i := 3) sc_parent_of.nd rfl (Or.inl rfl))
        (pss_cons (ps_set (i := 4) sc_parent_of.nd rfl (Or.inl rfl) (pe_dget1 (hu_of hr) (pe_fld (pv 0) rfl) (pe_join pe_str (pe_slice sl_list (pv 2) po_none (po_some (pv 3)))) (by constructor <;> rfl)))
        (pss_one (ps_if (pt_cmpR op_notN (pv 4) pe_non (nomark _))
          (pss_one (ps_ret (pv 4)))
          pss_nil))))
      (pss_one (ps_ret (pe_fld (pv 0) rfl))))), ?_⟩
    obtain ⟨h1', h2, h3, h4⟩ := parts_menu nm hnm
    refine ⟨_, rfl, ⟨_, rfl⟩, _, _, rfl, rfl, rfl, by rw [sizeLine_eq]; omega, fun p hp => ?_⟩
    have hs0 : Same H (L2.upd H p (.lst ((Txt.split nm ".").map V.str))) := Same.nw hp
    have hpe := upd_same (H := H) (a := p) (o := .lst ((Txt.split nm ".").map V.str))
    generalize L2.upd H p (.lst ((Txt.split nm ".").map V.str)) = H1 at *
    refine ⟨_, rfl, p, _, rfl, .inl (SqL.of hpe), ?_⟩
    refine ⟨_, _, rfl, rfl, ?_⟩
    refine ⟨_, rfl, ?_⟩
    rw [List.length_map]
    have hL : 1 ≤ (Txt.split nm ".").length := split_pos nm hnm
    obtain ⟨m, hm⟩ : ∃ m, (Txt.split nm ".").length - 1 = m := ⟨_, rfl⟩
    have hmi : (((Txt.split nm ".").length : Nat) : Int) - 1 = ((m : Nat) : Int) := by omega
    have hrg : RgC ((m : Nat) : Int) 0 (-1) m := by
      have z := RgC.neg (i := ((m : Nat) : Int)) (j := 0) (by omega) (by omega) (by decide) (by decide)
      rwa [show (((m : Nat) : Int) - 0).toNat = m by omega] at z
    have hk : parentA rows rt nm = parF rows rt (Txt.split nm ".") m := by unfold parentA; rw [hm]
    refine ⟨((m : Nat) : Int), 0, -1, m, by show [V.int ((((Txt.split nm ".").length : Nat) : Int) - 1), V.int 0, V.int (-1)] = _; rw [hmi], hrg, ?_⟩
    refine for_rangeC (n := m) (fun i σ' H' => i ≤ m ∧ ∃ o3 o4, σ' = [some (.ref y), some (.str nm), some (.ref p), o3, o4] ∧ Same H1 H' ∧ parF rows rt (Txt.split nm ".") m = parF rows rt (Txt.split nm ".") (m - i)) ⟨Nat.zero_le _, _, _, rfl, Same.rfl', rfl⟩ ?_ ?_
    · rintro i σ' H' hi ⟨_, o3, o4, rfl, hs1, hpar⟩
      obtain ⟨j, hj⟩ : ∃ j, m - i = j + 1 := ⟨m - i - 1, by omega⟩
      have hv : ((m : Nat) : Int) + ((i : Nat) : Int) * -1 = ((j + 1 : Nat) : Int) := by omega
      rw [hv]
      have hyH := (hy.same hs0).same hs1
      obtain ⟨dy, hyi⟩ := hyH.ins
      refine ⟨_, rfl, y, _, dy, fy, _, rfl, hyi, T.cl_Yard, T.no_Yard_logger_map, hyH.mapF, ?_⟩
      refine ⟨lm, rfl, .inl ⟨_, .inl hyH.at_⟩, ?_⟩
      refine ⟨⟨_, rfl⟩, _, rfl, _, rfl, _, rfl, p, _, rfl, SqL.of (hs1 _ _ hpe), fun q hq => ?_⟩
      have ecut : cutV ((Txt.split nm ".").map V.str) none (some ((j + 1 : Nat) : Int)) = ((Txt.split nm ".").take (j + 1)).map V.str := by
        unfold cutV
        rw [HT.sIx_nat, HT.sIx_none, List.length_map, List.drop_zero, Nat.sub_zero, List.map_take]
        rw [Nat.min_eq_left (by omega)]
      rw [ecut]
      have hjm := join_menu nm hnm (j + 1) (by omega)
      refine ⟨_, q, _, rfl, rfl, .inl (SqL.of upd_same), by show _ + _ * 1 ≤ _; omega, ?_⟩
      refine ⟨_, DGet.k (k := kS (Txt.join "." ((Txt.split nm ".").take (j + 1)))) (upd_at hyH.at_ hq), ?_⟩
      rw [valV_row]
      have hst : parF rows rt (Txt.split nm ".") (j + 1) = match rows.lookup (Txt.join "." ((Txt.split nm ".").take (j + 1))) with | some a => a | none => parF rows rt (Txt.split nm ".") j := rfl
      rw [hj, hst] at hpar
      cases ql : rows.lookup (Txt.join "." ((Txt.split nm ".").take (j + 1))) with
      | some a =>
        rw [ql] at hpar
        refine ⟨_, rfl, rfl, true, congrArg V.bl (by rfl), iteT ?_⟩
        refine ⟨_, rfl, ?_⟩
        rw [hk, hpar] at k
        exact k _ (Same.tr hs0 (Same.tr hs1 (Same.nw hq)))
      | none =>
        rw [ql] at hpar
        refine ⟨_, rfl, rfl, false, congrArg V.bl (by rfl), iteF ?_⟩
        exact ⟨hi, _, _, rfl, Same.tr hs1 (Same.nw hq), by rw [hpar, show m - (i + 1) = j by omega]⟩
    · rintro σ' H' ⟨_, o3, o4, rfl, hs1, hpar⟩
      have hyH := (hy.same hs0).same hs1
      obtain ⟨dy, hyi⟩ := hyH.ins
      refine ⟨_, rfl, y, _, dy, fy, _, rfl, hyi, T.cl_Yard, T.no_Yard_root, hyH.rootF, ?_⟩
      rw [hk, hpar, Nat.sub_self] at k
      exact k _ (Same.tr hs0 hs1)
end
end Ry
namespace Ry
open PySem PySem.Spec PyProof.Rows L2 He RyH
open C8 (pss_cut tCut Cal Met Mak pe_c pe_mk pe_mt pe_mt0 pe_gc)
/-! ### all parents are set anew -/
theorem lookup_nd {α : Type} : ∀ {rows : List (Str × α)} {j : Nat} {r : Str × α}, (rows.map (·.1)).Nodup → rows[j]? = some r → rows.lookup r.1 = some r.2
  | (a, b) :: rows, 0, r, _, e => by
    cases e
    exact List.lookup_cons_self
  | (a, b) :: rows, j + 1, r, h, e => by
    rw [List.map_cons, List.nodup_cons] at h
    have hm : r ∈ rows := List.mem_of_getElem? (show rows[j]? = some r from e)
    have hne : (r.1 == a) = false := beq_eq_false_iff_ne.mpr fun z => h.1 (by rw [← show a = a from rfl]; exact z ▸ List.mem_map.mpr ⟨r, hm, rfl⟩)
    rw [List.lookup_cons, hne]
    exact lookup_nd (j := j) h.2 e
theorem nodup_inj {α : Type} : ∀ {xs : List α} {i j : Nat} {x : α}, xs.Nodup → xs[i]? = some x → xs[j]? = some x → i = j
  | _ :: _, 0, 0, _, _, _, _ => rfl
  | a :: xs, 0, j + 1, x, h, h1, h2 => by
    cases h1
    exact absurd (List.mem_of_getElem? (show xs[j]? = some a from h2)) (List.nodup_cons.mp h).1
  | a :: xs, i + 1, 0, x, h, h1, h2 => by
    cases h2
    exact absurd (List.mem_of_getElem? (show xs[i]? = some a from h1)) (List.nodup_cons.mp h).1
  | a :: xs, i + 1, j + 1, x, h, h1, h2 => congrArg Nat.succ (nodup_inj (List.nodup_cons.mp h).2 (show xs[i]? = some x from h1) (show xs[j]? = some x from h2))
def rowsM (rows : List (Str × Addr)) : Addr → Prop := fun b => ∃ r ∈ rows, r.2 = b
def spPlace (K : PySem.W.Frag) : Sp := fun vs H Q _ => ∃ (y lm rt : Addr) (fy : List (Str × V)) (rows : List (Str × Addr)), vs = [.ref y] ∧ YMap K H y lm rt fy rows ∧ (∀ r ∈ rows, r.1 ∈ logMenu) ∧
  (∀ r ∈ rows, ∃ dx fs, H r.2 = some (.ins (ga K "Logger") dx fs) ∧ fs.length < 1000) ∧ (rows.map (·.2)).Nodup ∧ (rows.map (·.1)).Nodup ∧ ¬ rowsM rows y ∧ rows.length ≤ 100 ∧
  ∀ H', (∀ r ∈ rows, ∀ dx fs, H r.2 = some (.ins (ga K "Logger") dx fs) → H' r.2 = some (.ins (ga K "Logger") dx (putF "parent" (.ref (parentA rows rt r.1)) fs))) → Kp (rowsM rows) H H' → Q .non H'
section
variable {P : Program} {w : World} {K : PySem.W.Frag} {mg : Str → Option Value} {base : Heap}
theorem sc_place_loggers : FnScope ["yard", "name"] ["yard"] (defScope s_place_loggers) := ⟨rfl, rfl, rfl, by decide +kernel, rfl, by decide +kernel, by decide +kernel⟩
theorem cal_place_loggers (T : Txt w K mg) : Cal P w K mg base 2 "place_loggers" (spPlace K) [] := by
  obtain ⟨fd, F⟩ := T.df_place_loggers
  have c_parent_of := cal_parent_of (P := P) (base := base) T
  refine ⟨_, fd, ["yard"], [], F.ok sc_place_loggers (fun vs H Q E h => ?_) (fun cdv A outer s H vs Q E hr h => ?_), T.m_place_loggers, F.kp, F.bindsN (fun _ _ _ _ _ _ us hl => match us, hl with | [_], _ => rfl), .nil⟩
  · obtain ⟨_, _, _, _, _, rfl, _⟩ := h
    rfl
  · obtain ⟨y, lm, rt, fy, rows, rfl, hy, hmenu, hins, hnd2, hnd1, hyM, hlen, k⟩ := h
    refine ⟨_, PSs.nox (pss_one (ps_for PassesOwn.never rfl (pi_list (pe_callTy (T := "list") (call_listD rfl) (by rfl) T.f_list (by decide +kernel) (pa_cons (pe_fld (pv 0) rfl) pa_nil))) (pg_name (i := 1) sc_place_loggers.nd rfl (Or.inl rfl))
        (pss_one (ps_fld (pe_dget (hu_of hr) (pe_fld (pv 0) rfl) (pv 1) (fun _ _ => rfl)) (pe_c c_parent_of hr (by decide) (by rfl) (pa_cons (pv 0) (pa_cons (pv 1) pa_nil))) rfl)))), ?_⟩
    obtain ⟨dy, hyi⟩ := hy.ins
    have hlmM : ¬ rowsM rows lm := fun ⟨r, hr, e⟩ => by
      obtain ⟨dx, fs, q, _⟩ := hins r hr
      rw [e, hy.at_] at q
      cases q
    refine ⟨_, rfl, y, _, dy, fy, _, rfl, hyi, T.cl_Yard, T.no_Yard_logger_map, hy.mapF, ?_⟩
    refine ⟨lm, _, rfl, .inl hy.at_, fun q hq => ?_⟩
    have hqM : ¬ rowsM rows q := fun ⟨r, hr, e⟩ => by
      obtain ⟨dx, fs, z, _⟩ := hins r hr
      rw [e, hq] at z
      cases z
    have hkeys : (rows.map rowE).map (fun kv => kV kv.1) = (rows.map (·.1)).map V.str := by
      rw [List.map_map, List.map_map]
      rfl
    rw [hkeys]
    refine ⟨q, rfl, ⟨_, SqL.of upd_same⟩, ?_⟩
    refine for_list (xs := (rows.map (·.1)).map V.str) (fun i σ' H' => ∃ o, σ' = [some (.ref y), o] ∧ Kp (rowsM rows) H H' ∧ H' q = some (.lst ((rows.map (·.1)).map V.str)) ∧
      ∀ j r, rows[j]? = some r → ∀ dx fs, H r.2 = some (.ins (ga K "Logger") dx fs) → H' r.2 = some (.ins (ga K "Logger") dx (if j < i then putF "parent" (.ref (parentA rows rt r.1)) fs else fs))) ?_ (fun i σ' H' _ ⟨_, _, _, h, _⟩ => SqL.of h) ?_ ?_
    · refine ⟨_, rfl, Kp.new hq, upd_same, fun j r hr dx fs h => ?_⟩
      rw [if_neg (Nat.not_lt_zero _)]
      exact upd_at h hq
    · rintro i x σ' H' hx ⟨o, rfl, hk, hql, hall⟩
      obtain ⟨r, hr, rfl⟩ : ∃ r, rows[i]? = some r ∧ x = .str r.1 := by
        rw [List.getElem?_map, List.getElem?_map] at hx
        cases q : rows[i]? with
        | none => rw [q] at hx; cases hx
        | some r => rw [q] at hx; exact ⟨r, rfl, (Option.some.inj hx).symm⟩
      have hmem : r ∈ rows := List.mem_of_getElem? hr
      have hy' : YMap K H' y lm rt fy rows := ⟨⟨dy, hk _ _ hyi hyM⟩, hy.mapF, hy.rootF, hk _ _ hy.at_ hlmM⟩
      refine ⟨_, rfl, _, rfl, y, lm, rt, fy, rows, r.1, rfl, hy', hmenu r hmem, fun H2 hs2 => ?_⟩
      have hy2 := hy'.same hs2
      obtain ⟨dy2, hyi2⟩ := hy2.ins
      obtain ⟨dx, fs, hri, hfl⟩ := hins r hmem
      have h2 := hs2 _ _ (hall i r hr dx fs hri)
      rw [if_neg (Nat.lt_irrefl _)] at h2
      refine ⟨_, rfl, y, _, dy2, fy, _, rfl, hyi2, T.cl_Yard, T.no_Yard_logger_map, hy2.mapF, ?_⟩
      refine ⟨_, rfl, ?_⟩
      refine ⟨lm, .ref r.2, rfl, ?_, ?_⟩
      · have z := DGet.k (k := kS r.1) hy2.at_
        rw [valV_row, lookup_nd hnd1 hr] at z
        exact z
      · refine ⟨r.2, _, dx, fs, rfl, h2, T.cl_Logger, T.no_Logger_parent, hfl, ?_⟩
        have hqr : q ≠ r.2 := fun z => hqM ⟨r, hmem, z.symm⟩
        refine ⟨_, rfl, (hk.trans (Kp.same hs2)).wrM ⟨r, hmem, rfl⟩, by rw [upd_ne hqr]; exact hs2 _ _ hql, fun j r' hr' dx' fs' h' => ?_⟩
        by_cases e : j = i
        · subst e
          rw [hr] at hr'
          cases hr'
          rw [hri] at h'
          cases h'
          rw [if_pos (Nat.lt_succ_self _), upd_same]
        · have hne : r'.2 ≠ r.2 := fun z => by
            have h1 : (rows.map (·.2))[j]? = some r'.2 := by rw [List.getElem?_map, hr']; rfl
            have h2 : (rows.map (·.2))[i]? = some r.2 := by rw [List.getElem?_map, hr]; rfl
            rw [z] at h1
            exact e (nodup_inj hnd2 h1 h2)
          rw [upd_ne hne, hs2 _ _ (hall j r' hr' dx' fs' h')]
          by_cases e2 : j < i
          · rw [if_pos e2, if_pos (by omega)]
          · rw [if_neg e2, if_neg (by omega)]
    · rintro σ' H' ⟨o, rfl, hk, hql, hall⟩
      refine k H' (fun r hr dx fs h => ?_) hk
      obtain ⟨j, hj, e⟩ := List.getElem_of_mem hr
      have z := hall j r (by rw [List.getElem?_eq_getElem hj, e]) dx fs h
      rw [if_pos (by rw [List.length_map, List.length_map]; exact hj)] at z
      exact z
end
end Ry
namespace Ry
open PySem PySem.Spec PyProof.Rows L2 He RyH
open C8 (pss_cut tCut Cal Met Mak pe_c pe_mk pe_mt pe_mt0 pe_gc)
/-! ### a logger by its name -/
/-- what a map of loggers asks -/
structure Lgs (K : PySem.W.Frag) (H : Hp) (y lm : Addr) (rows : List (Str × Addr)) : Prop where
  menu : ∀ r ∈ rows, r.1 ∈ logMenu
  ins : ∀ r ∈ rows, ∃ dx fs, H r.2 = some (.ins (ga K "Logger") dx fs) ∧ fs.length < 1000
  nd2 : (rows.map (·.2)).Nodup
  nd1 : (rows.map (·.1)).Nodup
  noY : ¬ rowsM rows y
  few : rows.length ≤ 90
theorem logMenu_ne : ∀ x ∈ logMenu, decide (V.str x = V.str "") = false ∧ decide (V.str x = V.str "root") = false := by decide +kernel
def spGetLogger (K : PySem.W.Frag) : Sp := fun vs H Q _ => ∃ (y lm rt : Addr) (fy : List (Str × V)) (rows : List (Str × Addr)) (nm : Str), vs = [.ref y, .str nm] ∧ YMap K H y lm rt fy rows ∧
  ((nm = "" ∧ Q (.ref rt) H) ∨
   (nm ∈ logMenu ∧ ∃ a, rows.lookup nm = some a ∧ ∀ H', Same H H' → Q (.ref a) H') ∨
   (nm ∈ logMenu ∧ nm ∉ rows.map (·.1) ∧ Lgs K H y lm rows ∧ ∀ a fl hl dx H', H a = none → H fl = none → H hl = none → fl ≠ hl → a ≠ fl → a ≠ hl → H' lm = some (.dK ((rows ++ [(nm, a)]).map rowE)) →
     H' a = some (.ins (ga K "Logger") dx (lgF y fl nm 0 true false hl (.ref (parentA (rows ++ [(nm, a)]) rt nm)))) → H' fl = some (.lst []) → H' hl = some (.lst []) →
     (∀ r ∈ rows, ∀ dx fs, H r.2 = some (.ins (ga K "Logger") dx fs) → H' r.2 = some (.ins (ga K "Logger") dx (putF "parent" (.ref (parentA (rows ++ [(nm, a)]) rt r.1)) fs))) →
     Kp (fun b => b = lm ∨ rowsM rows b) H H' → Q (.ref a) H'))
theorem pf_lp (y fl : Addr) (nm : Str) (lv : Int) (pr di : Bool) (hl : Addr) (pa v : V) : putF "parent" v (lgF y fl nm lv pr di hl pa) = lgF y fl nm lv pr di hl v := by kernel_rfl
theorem lookup_none {α : Type} {rows : List (Str × α)} {k : Str} (h : k ∉ rows.map (·.1)) : rows.lookup k = none := by
  induction rows with
  | nil => rfl
  | cons r rows ih =>
    obtain ⟨a, b⟩ := r
    rw [List.map_cons, List.mem_cons] at h
    have e2 : (k == a) = false := beq_eq_false_iff_ne.mpr fun z => h (.inl z)
    rw [List.lookup_cons, e2]
    exact ih fun z => h (.inr z)
theorem putA_new {α : Type} {rows : List (Str × α)} {k : Str} {v : α} (h : k ∉ rows.map (·.1)) : putA rows k v = rows ++ [(k, v)] := by
  unfold putA
  rw [if_neg]
  intro z
  obtain ⟨x, hx, e⟩ := List.any_eq_true.mp z
  exact h (List.mem_map.mpr ⟨x, hx, of_decide_eq_true e⟩)
section
variable {P : Program} {w : World} {K : PySem.W.Frag} {mg : Str → Option Value} {base : Heap}
theorem sc_Yard_getLogger : FnScope ["self", "name"] ["self", "name"] (defScope s_Yard_getLogger) := ⟨rfl, rfl, rfl, by decide +kernel, rfl, by decide +kernel, by decide +kernel⟩
theorem fn_Yard_getLogger (T : Txt w K mg) : ∃ fd, FnOk P w K mg base CX0 4 (ma K (ga K "Yard") "getLogger") fd ["self", "name"] (spGetLogger K) ∧ FunD K "getLogger" "Yard.getLogger" (defArgs s_Yard_getLogger) (defBody s_Yard_getLogger) (defScope s_Yard_getLogger) (He.DefD.dvs K d_Yard_getLogger) [] (ma K (ga K "Yard") "getLogger") fd := by
  obtain ⟨fd, F⟩ := T.df_Yard_getLogger
  have c_are_parts := cal_are_parts (P := P) (base := base) T
  have c_mk_Logger := mk_Logger (P := P) (base := base) T
  have c_place_loggers := cal_place_loggers (P := P) (base := base) T
  refine ⟨fd, F.ok sc_Yard_getLogger (fun vs H Q E h => ?_) (fun cdv A outer s H vs Q E hr h => ?_), F⟩
  · obtain ⟨_, _, _, _, _, _, rfl, _⟩ := h
    rfl
  · obtain ⟨y, lm, rt, fy, rows, nm, rfl, hy, hc⟩ := h
    refine ⟨_, PSs.nox (pss_cons (ps_if (RyN.pt_cut (PW.pt (pw_or (pt_cmpR op_eq (pv 1) pe_str (nomark _)) (pw_or1 (pt_cmpR op_eq (pv 1) pe_str (nomark _))))))
        (pss_one (ps_ret (pe_fld (pv 0) rfl)))
        pss_nil)
      (pss_cons (ps_if (pt_not (pt_val (pe_c c_are_parts hr (by decide) (by rfl) (pa_cons (pv 1) pa_nil))))
        (pss_one ps_never)
        pss_nil)
      (pss_cut (ps_if (pt_cmp (pc_dnotin (hu_of hr) (pv 1) (pe_fld (pv 0) rfl)) rfl)
        (pss_cons (ps_dput (hu_of hr) (pe_fld (pv 0) rfl) (pv 1) (pe_mk c_mk_Logger hr (by decide) (by rfl) (pa_cons (pv 0) (pa_cons (pv 1) (pa_cons (pe_gc (by rfl) (T.c_NOTSET)) pa_nil)))) rfl)
        (pss_one (ps_expr (pe_c c_place_loggers hr (by decide) (by rfl) (pa_cons (pv 0) pa_nil)))))
        pss_nil)
      (pss_one (ps_ret (pe_dget (hu_of hr) (pe_fld (pv 0) rfl) (pv 1) (fun _ _ => rfl))))))), ?_⟩
    obtain ⟨dy, hyi⟩ := hy.ins
    refine ⟨fun b H2 => H = H2 ∧ (b = true ↔ nm = ""), ?_, ?_⟩
    · refine ⟨_, rfl, rfl, decide (V.str nm = V.str ""), rfl, ?_⟩
      cases e : decide (V.str nm = V.str "") with
      | true =>
        refine iteT ?_
        exact ⟨rfl, fun _ => V.str.inj (of_decide_eq_true e), fun _ => rfl⟩
      | false =>
        refine iteF ?_
        have hn : nm ≠ "" := fun z => by rw [z] at e; exact absurd e (by decide)
        have hmenu : nm ∈ logMenu := by
          rcases hc with ⟨h, _⟩ | ⟨h, _⟩ | ⟨h, _⟩
          · exact absurd h hn
          · exact h
          · exact h
        refine ⟨_, rfl, rfl, false, congrArg V.bl (logMenu_ne nm hmenu).2, ?_⟩
        exact ⟨rfl, fun z => Bool.noConfusion z, fun z => absurd z hn⟩
    rintro b H2 ⟨rfl, hb⟩
    rcases hc with ⟨rfl, k⟩ | hc
    · rw [show b = true from hb.mpr rfl]
      refine iteT ?_
      exact ⟨_, rfl, y, _, dy, fy, _, rfl, hyi, T.cl_Yard, T.no_Yard_root, hy.rootF, k⟩
    have hmenu : nm ∈ logMenu := by
      rcases hc with ⟨h, _⟩ | ⟨h, _⟩ <;> exact h
    have hbf : b = false := by
      cases b with
      | false => rfl
      | true =>
        have z := (logMenu_ne nm hmenu).1
        rw [hb.mp rfl] at z
        exact absurd z (by decide)
    subst hbf
    refine iteF ?_
    refine ⟨_, rfl, nm, rfl, hmenu, fun H1 hs1 => ?_⟩
    refine ⟨_, rfl, iteF ?_⟩
    have hy1 := hy.same hs1
    obtain ⟨dy1, hyi1⟩ := hy1.ins
    refine ⟨fun σ' H' => σ' = [some (.ref y), some (.str nm)] ∧ ∃ a rows', YMap K H' y lm rt fy rows' ∧ rows'.lookup nm = some a ∧ Q (.ref a) H', ?_, ?_⟩
    · refine ⟨_, rfl, _, rfl, y, _, dy1, fy, _, rfl, hyi1, T.cl_Yard, T.no_Yard_logger_map, hy1.mapF, ?_⟩
      refine ⟨lm, _, rfl, DGet.k (k := kS nm) hy1.at_, _, rfl, ?_⟩
      rw [valV_row]
      rcases hc with ⟨_, a, hl, k⟩ | ⟨_, hnew, hL, k⟩
      · rw [hl]
        refine iteF ?_
        exact ⟨rfl, a, rows, hy1, hl, k H1 hs1⟩
      · rw [lookup_none hnew]
        refine iteT ?_
        refine ⟨_, rfl, _, rfl, fun x dx hx hdx hne => ?_⟩
        have hx' : L2.upd H1 dx (.own x) x = none := by rw [upd_ne hne.symm]; exact hx
        refine ⟨x, dx, y, nm, 0, rfl, upd_same, fun fl hl H2 hfl hhl hfh e1 e2 e3 kk => ⟨rfl, ?_⟩⟩
        have hs12 : Same H1 (L2.upd (L2.upd H1 dx (.own x)) x (.ins (ga K "Logger") dx [])) := Same.tr (Same.nw hdx) (Same.nw hx')
        have hk2 : Kp (fun b => b = x) H1 H2 := (Kp.same hs12).trans kk
        have hs2 : Same H1 H2 := fun b o e => hk2 b o e (fun z => by rw [z, hx] at e; cases e)
        have hy2 := hy1.same hs2
        obtain ⟨dy2, hyi2⟩ := hy2.ins
        have hflx : x ≠ fl := ne_of e1 e2 (fun z => nomatch z)
        have hhlx : x ≠ hl := ne_of e1 e3 (fun z => nomatch z)
        refine ⟨_, rfl, y, _, dy2, fy, _, rfl, hyi2, T.cl_Yard, T.no_Yard_logger_map, hy2.mapF, ?_⟩
        have hfew := hL.few
        refine ⟨_, rfl, lm, _, rfl, DPut.k (k := kS nm) hy2.at_ (by rw [List.length_map, sizeLine_eq]; omega), ?_⟩
        rw [putK_row, putA_new hnew]
        have hlmx : lm ≠ x := ne_of_none hy1.at_ hx
        have hyx : y ≠ x := ne_of_none hyi1 hx
        have hylm : y ≠ lm := ne_of hyi1 hy1.at_ (fun z => nomatch z)
        have hlmf : lm ≠ fl := ne_of hy2.at_ e2 (fun z => nomatch z)
        have hlmh : lm ≠ hl := ne_of hy2.at_ e3 (fun z => nomatch z)
        have hy3 : YMap K (L2.upd H2 lm (.dK ((rows ++ [(nm, x)]).map rowE))) y lm rt fy (rows ++ [(nm, x)]) := ⟨⟨dy2, by rw [upd_ne hylm]; exact hyi2⟩, hy.mapF, hy.rootF, upd_same⟩
        have hxr : x ∉ rows.map (·.2) := fun z => by
          obtain ⟨r, hr, e⟩ := List.mem_map.mp z
          obtain ⟨d, f, q, _⟩ := hL.ins r hr
          have q1 := hs1 _ _ q
          rw [e, hx] at q1
          cases q1
        have hlmM : ∀ r ∈ rows, r.2 ≠ lm := fun r hr z => by
          obtain ⟨d, f, q, _⟩ := hL.ins r hr
          rw [z, hy.at_] at q
          cases q
        have e1' : L2.upd H2 lm (.dK ((rows ++ [(nm, x)]).map rowE)) x = some (.ins (ga K "Logger") dx (lgF y fl nm 0 true false hl .non)) := by rw [upd_ne hlmx.symm]; exact e1
        refine ⟨_, rfl, y, lm, rt, fy, rows ++ [(nm, x)], rfl, hy3, ?_, ?_, ?_, ?_, ?_, by rw [List.length_append, List.length_singleton]; omega, fun H3 hall hk3 => ?_⟩
        · intro r hr
          rcases List.mem_append.mp hr with z | z
          · exact hL.menu r z
          · rw [List.mem_singleton.mp z]
            exact hmenu
        · intro r hr
          rcases List.mem_append.mp hr with z | z
          · obtain ⟨d, f, q, l⟩ := hL.ins r z
            exact ⟨d, f, by rw [upd_ne (hlmM r z)]; exact hs2 _ _ (hs1 _ _ q), l⟩
          · rw [List.mem_singleton.mp z]
            exact ⟨dx, _, e1', csz rfl⟩
        · rw [List.map_append]
          exact List.nodup_append.mpr ⟨hL.nd2, by simp, fun a ha b hb => by rw [List.mem_singleton.mp hb]; intro z; rw [z] at ha; exact hxr ha⟩
        · rw [List.map_append]
          exact List.nodup_append.mpr ⟨hL.nd1, by simp, fun a ha b hb => by rw [List.mem_singleton.mp hb]; intro z; rw [z] at ha; exact hnew ha⟩
        · rintro ⟨r, hr, e⟩
          rcases List.mem_append.mp hr with z | z
          · exact hL.noY ⟨r, z, e⟩
          · rw [List.mem_singleton.mp z] at e
            exact hyx e.symm
        · have hxa := hall (nm, x) (List.mem_append_right _ (List.mem_singleton.mpr rfl)) dx _ e1'
          rw [pf_lp] at hxa
          have offM : ∀ {b o}, L2.upd H2 lm (.dK ((rows ++ [(nm, x)]).map rowE)) b = some o → (∀ d f, o ≠ .ins (ga K "Logger") d f) → H3 b = some o := fun {b o} e hno => hk3 _ _ e fun ⟨r, hr, z⟩ => by
            rcases List.mem_append.mp hr with q | q
            · obtain ⟨d, f, q2, _⟩ := hL.ins r q
              have q3 : L2.upd H2 lm (.dK ((rows ++ [(nm, x)]).map rowE)) r.2 = some (.ins (ga K "Logger") d f) := by rw [upd_ne (hlmM r q)]; exact hs2 _ _ (hs1 _ _ q2)
              rw [z, e] at q3
              exact hno _ _ (Option.some.inj q3)
            · rw [List.mem_singleton.mp q] at z
              have z' : x = b := z
              rw [← z', e1'] at e
              exact hno _ _ (Option.some.inj e).symm
          have hlm3 := offM (b := lm) upd_same (fun d f z => nomatch z)
          have hfl3 := offM (b := fl) (o := .lst []) (by rw [upd_ne (Ne.symm hlmf)]; exact e2) (fun d f z => nomatch z)
          have hhl3 := offM (b := hl) (o := .lst []) (by rw [upd_ne (Ne.symm hlmh)]; exact e3) (fun d f z => nomatch z)
          have hyM : ¬ rowsM (rows ++ [(nm, x)]) y := fun ⟨r, hr, e⟩ => by
            rcases List.mem_append.mp hr with z | z
            · exact hL.noY ⟨r, z, e⟩
            · rw [List.mem_singleton.mp z] at e
              exact hyx e.symm
          refine ⟨rfl, x, rows ++ [(nm, x)], ⟨⟨dy2, hk3 _ _ (by rw [upd_ne hylm]; exact hyi2) hyM⟩, hy.mapF, hy.rootF, hlm3⟩, ?_, ?_⟩
          · have hnd : ((rows ++ [(nm, x)]).map (·.1)).Nodup := by
              rw [List.map_append]
              exact List.nodup_append.mpr ⟨hL.nd1, by simp, fun a ha b hb => by rw [List.mem_singleton.mp hb]; intro z; rw [z] at ha; exact hnew ha⟩
            exact lookup_nd (j := rows.length) (r := (nm, x)) hnd (by simp)
          · have hfl1 : H1 fl = none := was_none (was_none hfl)
            have hhl1 : H1 hl = none := was_none (was_none hhl)
            refine k x fl hl dx H3 (Same.was hs1 hx) (Same.was hs1 hfl1) (Same.was hs1 hhl1) hfh hflx hhlx hlm3 hxa hfl3 hhl3 (fun r hr d f q => ?_) ?_
            · exact hall r (List.mem_append_left _ hr) d f (by rw [upd_ne (hlmM r hr)]; exact hs2 _ _ (hs1 _ _ q))
            · intro b o hb hnb
              have hb2 : H2 b = some o := hs2 _ _ (hs1 _ _ hb)
              have hbl : b ≠ lm := fun z => hnb (.inl z)
              refine hk3 b o (by rw [upd_ne hbl]; exact hb2) fun ⟨r, hr, z⟩ => ?_
              rcases List.mem_append.mp hr with q | q
              · exact hnb (.inr ⟨r, q, z⟩)
              · rw [List.mem_singleton.mp q] at z
                have z' : x = b := z
                have hb1 := hs1 _ _ hb
                rw [← z', hx] at hb1
                cases hb1
    · rintro σ' H' ⟨rfl, a, rows', hyE, hl, q⟩
      obtain ⟨dyE, hyiE⟩ := hyE.ins
      refine ⟨_, rfl, y, _, dyE, fy, _, rfl, hyiE, T.cl_Yard, T.no_Yard_logger_map, hyE.mapF, ?_⟩
      refine ⟨_, rfl, lm, .ref a, rfl, ?_, q⟩
      have z := DGet.k (k := kS nm) hyE.at_
      rw [valV_row, hl] at z
      exact z
end
end Ry
namespace Ry
open PySem PySem.Spec PyProof.Rows L2 He RyH
open C8 (pss_cut tCut Cal Met Mak pe_c pe_mk pe_mt pe_mt0 pe_gc)
/-! ### a new yard -/
theorem pf_y2 (a b : V) : putF "stream_texts" b [("clock", a)] = ([("clock", a), ("stream_texts", b)] : List (Str × V)) := by kernel_rfl
theorem pf_y3 (a b c : V) : putF "file_rows" c [("clock", a), ("stream_texts", b)] = ([("clock", a), ("stream_texts", b), ("file_rows", c)] : List (Str × V)) := by kernel_rfl
theorem pf_y4 (a b c d : V) : putF "names_of" d [("clock", a), ("stream_texts", b), ("file_rows", c)] = ([("clock", a), ("stream_texts", b), ("file_rows", c), ("names_of", d)] : List (Str × V)) := by kernel_rfl
theorem pf_y5 (a b c d e : V) : putF "numbers_of" e [("clock", a), ("stream_texts", b), ("file_rows", c), ("names_of", d)] = ([("clock", a), ("stream_texts", b), ("file_rows", c), ("names_of", d), ("numbers_of", e)] : List (Str × V)) := by kernel_rfl
theorem pf_y6 (a b c d e f : V) : putF "bar_level" f [("clock", a), ("stream_texts", b), ("file_rows", c), ("names_of", d), ("numbers_of", e)] = ([("clock", a), ("stream_texts", b), ("file_rows", c), ("names_of", d), ("numbers_of", e), ("bar_level", f)] : List (Str × V)) := by kernel_rfl
theorem pf_y7 (a b c d e f g : V) : putF "logger_map" g [("clock", a), ("stream_texts", b), ("file_rows", c), ("names_of", d), ("numbers_of", e), ("bar_level", f)] = ([("clock", a), ("stream_texts", b), ("file_rows", c), ("names_of", d), ("numbers_of", e), ("bar_level", f), ("logger_map", g)] : List (Str × V)) := by kernel_rfl
theorem pf_y8 (a b c d e f g h : V) : putF "made" h [("clock", a), ("stream_texts", b), ("file_rows", c), ("names_of", d), ("numbers_of", e), ("bar_level", f), ("logger_map", g)] = ([("clock", a), ("stream_texts", b), ("file_rows", c), ("names_of", d), ("numbers_of", e), ("bar_level", f), ("logger_map", g), ("made", h)] : List (Str × V)) := by kernel_rfl
theorem pf_y9 (a b c d e f g h i : V) : putF "handler_names" i [("clock", a), ("stream_texts", b), ("file_rows", c), ("names_of", d), ("numbers_of", e), ("bar_level", f), ("logger_map", g), ("made", h)] = ([("clock", a), ("stream_texts", b), ("file_rows", c), ("names_of", d), ("numbers_of", e), ("bar_level", f), ("logger_map", g), ("made", h), ("handler_names", i)] : List (Str × V)) := by kernel_rfl
theorem pf_y10 (a b c d e f g h i j : V) : putF "failure_rows" j [("clock", a), ("stream_texts", b), ("file_rows", c), ("names_of", d), ("numbers_of", e), ("bar_level", f), ("logger_map", g), ("made", h), ("handler_names", i)] = ([("clock", a), ("stream_texts", b), ("file_rows", c), ("names_of", d), ("numbers_of", e), ("bar_level", f), ("logger_map", g), ("made", h), ("handler_names", i), ("failure_rows", j)] : List (Str × V)) := by kernel_rfl
theorem pf_y11 (a b c d e f g h i j k : V) : putF "root" k [("clock", a), ("stream_texts", b), ("file_rows", c), ("names_of", d), ("numbers_of", e), ("bar_level", f), ("logger_map", g), ("made", h), ("handler_names", i), ("failure_rows", j)] = ([("clock", a), ("stream_texts", b), ("file_rows", c), ("names_of", d), ("numbers_of", e), ("bar_level", f), ("logger_map", g), ("made", h), ("handler_names", i), ("failure_rows", j), ("root", k)] : List (Str × V)) := by kernel_rfl
theorem pf_y12 (a b c d e f g h i j k l : V) : putF "last_resort" l [("clock", a), ("stream_texts", b), ("file_rows", c), ("names_of", d), ("numbers_of", e), ("bar_level", f), ("logger_map", g), ("made", h), ("handler_names", i), ("failure_rows", j), ("root", k)] = ([("clock", a), ("stream_texts", b), ("file_rows", c), ("names_of", d), ("numbers_of", e), ("bar_level", f), ("logger_map", g), ("made", h), ("handler_names", i), ("failure_rows", j), ("root", k), ("last_resort", l)] : List (Str × V)) := by kernel_rfl
abbrev ydF (ck : Int) (st fr no nu : Addr) (bar : Int) (lm mk hn fa rt lr : Addr) : List (Str × V) := [("clock", .int ck), ("stream_texts", .ref st), ("file_rows", .ref fr), ("names_of", .ref no), ("numbers_of", .ref nu), ("bar_level", .int bar), ("logger_map", .ref lm), ("made", .ref mk), ("handler_names", .ref hn), ("failure_rows", .ref fa), ("root", .ref rt), ("last_resort", .ref lr)]
/-- what a new yard is -/
structure YNew (K : PySem.W.Frag) (H : Hp) (y : Addr) (st fr no nu lm mk hn fa rt lr rfl_ rhl lrf : Addr) : Prop where
  ins : ∃ dy, H y = some (.ins (ga K "Yard") dy (ydF 0 st fr no nu 0 lm mk hn fa rt lr))
  stE : H st = some (.dK [])
  frE : H fr = some (.dK [])
  noE : H no = some (.dK kvNames)
  nuE : H nu = some (.dK kvNumbers)
  lmE : H lm = some (.dK [])
  mkE : H mk = some (.lst [])
  hnE : H hn = some (.dK [])
  faE : H fa = some (.lst [])
  rtE : ∃ dx, H rt = some (.ins (ga K "Logger") dx (lgF y rfl_ "root" 30 true false rhl .non))
  rflE : H rfl_ = some (.lst [])
  rhlE : H rhl = some (.lst [])
  lrE : ∃ dx, H lr = some (.ins (ga K "StreamHandler") dx (hdB y lrf 0 .non .non "\n" false ++ ([("stream", .str "stderr")] : List (Str × V))))
  lrfE : H lrf = some (.lst [])
def spYardInit (K : PySem.W.Frag) : Sp := fun vs H Q _ => ∃ (y dy : Addr), vs = [.ref y, .int 0] ∧ H y = some (.ins (ga K "Yard") dy []) ∧
  ∀ st fr no nu lm mk hn fa rt lr rfl_ rhl lrf H', [mk, lrf, lr, rhl, rfl_, rt, fa, hn, lm, nu, no, fr, st].Nodup → (∀ b ∈ [mk, lrf, lr, rhl, rfl_, rt, fa, hn, lm, nu, no, fr, st], H b = none) → YNew K H' y st fr no nu lm mk hn fa rt lr rfl_ rhl lrf → Kp (fun b => b = y) H H' → Q .non H'
/-- how far a new yard is -/
structure YS (K : PySem.W.Frag) (H G : Hp) (y dy : Addr) (fs : List (Str × V)) (ps : List (Addr × HO)) : Prop where
  yE : G y = some (.ins (ga K "Yard") dy fs)
  all : ∀ x ∈ ps, G x.1 = some x.2 ∧ H x.1 = none ∧ x.1 ≠ y
  nd : (ps.map (·.1)).Nodup
  kp : Kp (fun b => b = y) H G
theorem YS.free {K : PySem.W.Frag} {H G : Hp} {y dy p : Addr} {fs : List (Str × V)} {ps : List (Addr × HO)} (h : YS K H G y dy fs ps) (hp : G p = none) : H p = none ∧ p ≠ y ∧ p ∉ ps.map (·.1) := by
  have hy : p ≠ y := fun z => by rw [z, h.yE] at hp; cases hp
  refine ⟨?_, hy, fun z => ?_⟩
  · cases q : H p with
    | none => rfl
    | some o =>
      rw [h.kp p o q hy] at hp
      cases hp
  · obtain ⟨x, hx, e⟩ := List.mem_map.mp z
    have q := (h.all x hx).1
    rw [e, hp] at q
    cases q
theorem YS.set {K : PySem.W.Frag} {H G : Hp} {y dy : Addr} {fs fs' : List (Str × V)} {ps : List (Addr × HO)} (h : YS K H G y dy fs ps) : YS K H (upd G y (.ins (ga K "Yard") dy fs')) y dy fs' ps :=
  ⟨upd_same, fun x hx => ⟨by rw [upd_ne (h.all x hx).2.2]; exact (h.all x hx).1, (h.all x hx).2⟩, h.nd, h.kp.trans (Kp.at rfl)⟩
theorem YS.same {K : PySem.W.Frag} {H G G' : Hp} {y dy : Addr} {fs : List (Str × V)} {ps : List (Addr × HO)} (h : YS K H G y dy fs ps) (k : Same G G') : YS K H G' y dy fs ps :=
  ⟨k _ _ h.yE, fun x hx => ⟨k _ _ (h.all x hx).1, (h.all x hx).2⟩, h.nd, h.kp.trans (Kp.same k)⟩
theorem YS.add {K : PySem.W.Frag} {H G : Hp} {y dy p : Addr} {fs : List (Str × V)} {ps : List (Addr × HO)} {o : HO} (h : YS K H G y dy fs ps) (hp : G p = some o) (hn : H p = none ∧ p ≠ y ∧ p ∉ ps.map (·.1)) : YS K H G y dy fs ((p, o) :: ps) := by
  refine ⟨h.yE, fun x hx => ?_, ?_, h.kp⟩
  · rcases List.mem_cons.mp hx with z | z
    · rw [z]
      exact ⟨hp, hn.1, hn.2.1⟩
    · exact h.all x z
  · rw [List.map_cons]
    exact List.nodup_cons.mpr ⟨hn.2.2, h.nd⟩
theorem YS.new {K : PySem.W.Frag} {H G : Hp} {y dy p : Addr} {fs : List (Str × V)} {ps : List (Addr × HO)} {o : HO} (h : YS K H G y dy fs ps) (hp : G p = none) : YS K H (upd G p o) y dy fs ((p, o) :: ps) :=
  (h.same (Same.nw hp)).add upd_same (h.free hp)
theorem YS.kpM {K : PySem.W.Frag} {M : Addr → Prop} {H G G' : Hp} {y dy : Addr} {fs : List (Str × V)} {ps : List (Addr × HO)} (h : YS K H G y dy fs ps) (k : Kp M G G') (hy : ¬ M y) (hps : ∀ x ∈ ps, ¬ M x.1) (hM : ∀ b, M b → H b = none) : YS K H G' y dy fs ps :=
  ⟨k _ _ h.yE hy, fun x hx => ⟨k _ _ (h.all x hx).1 (hps x hx), (h.all x hx).2⟩, h.nd, fun b o e n => k _ _ (h.kp b o e n) fun m => by rw [hM b m] at e; cases e⟩
theorem YS.sub {K : PySem.W.Frag} {H G : Hp} {y dy : Addr} {fs : List (Str × V)} {ps qs : List (Addr × HO)} (h : YS K H G y dy fs ps) (k : qs.Sublist ps) : YS K H G y dy fs qs := ⟨h.yE, fun x hx => h.all x (k.subset hx), h.nd.sublist (k.map _), h.kp⟩
theorem YS.allH {K : PySem.W.Frag} {H G : Hp} {y dy : Addr} {fs : List (Str × V)} {ps : List (Addr × HO)} (h : YS K H G y dy fs ps) : ∀ b ∈ ps.map (·.1), H b = none := fun b hb => by
  obtain ⟨x, hx, e⟩ := List.mem_map.mp hb
  rw [← e]
  exact (h.all x hx).2.1
theorem nd_mid {l1 l2 : List (Addr × HO)} {m : Addr} {o : HO} (h : ((l1 ++ (m, o) :: l2).map (·.1)).Nodup) : ∀ x ∈ l1 ++ l2, x.1 ≠ m := by
  intro x hx z
  rw [List.map_append, List.map_cons, List.nodup_append] at h
  obtain ⟨h1, h2, h3⟩ := h
  rcases List.mem_append.mp hx with q | q
  · exact h3 x.1 (List.mem_map.mpr ⟨x, q, rfl⟩) m (List.mem_cons_self ..) z
  · exact (List.nodup_cons.mp h2).1 (by rw [← z]; exact List.mem_map.mpr ⟨x, q, rfl⟩)
theorem ni_cons {α : Type} {p q : α} {l : List α} (h : p ∉ l) (hne : p ≠ q) : p ∉ q :: l := fun z => (List.mem_cons.mp z).elim hne h
section
variable {P : Program} {w : World} {K : PySem.W.Frag} {mg : Str → Option Value} {base : Heap}
theorem mk_StreamHandler1 (T : Txt w K mg) : Mak P w K mg base 3 "StreamHandler" (ga K "StreamHandler") (spStreamInit K) [(.str "stderr")] := by
  obtain ⟨fd, f, F⟩ := fn_StreamHandler_init (P := P) (base := base) T
  obtain ⟨ds, hV, hB⟩ := F.binds1 (ps := ["self", "yard", "stream"]) 2 0 (fun z => nomatch z) rfl (fun _ _ _ _ _ _ _ us its h1 h2 => match us, its, h1, h2 with | [_, _], [_], _, _ => ⟨_, rfl, rfl⟩)
  refine ⟨_, fd, _, _, T.mk_StreamHandler, ?_, T.m_StreamHandler, hB, hV⟩
  exact f
theorem sc_Yard_init : FnScope ["self", "now"] ["self", "now"] (defScope s_Yard_init) := ⟨rfl, rfl, rfl, by decide +kernel, rfl, by decide +kernel, by decide +kernel⟩
theorem fn_Yard_init (T : Txt w K mg) : ∃ fd, FnOk P w K mg base CX0 5 (ma K (ga K "Yard") "__init__") fd ["self", "now"] (spYardInit K) ∧ FunD K "__init__" "Yard.__init__" (defArgs s_Yard_init) (defBody s_Yard_init) (defScope s_Yard_init) (He.DefD.dvs K d_Yard_init) [] (ma K (ga K "Yard") "__init__") fd := by
  obtain ⟨fd, F⟩ := T.df_Yard_init
  have c_mk_Logger := mk_Logger (P := P) (base := base) T
  have c_mk_StreamHandler := mk_StreamHandler1 (P := P) (base := base) T
  refine ⟨fd, F.ok sc_Yard_init (fun vs H Q E h => ?_) (fun cdv A outer s H vs Q E hr h => ?_), F⟩
  · obtain ⟨_, _, rfl, _⟩ := h
    rfl
  · obtain ⟨y, dy, rfl, hy, k⟩ := h
    refine ⟨_, PSs.nox (pss_cons (ps_fld (pv 0) (pv 1) rfl)
      (pss_cons (ps_fld (pv 0) pe_dnewK rfl)
      (pss_cons (ps_fld (pv 0) pe_dnewK rfl)
      (pss_cons (ps_fld (pv 0) (pe_callTy (T := "dict") (call_dictK (kvs := kvNames) (by decide) fun h X => T.d_NAMES X) (by rfl) T.f_dict (by decide +kernel) (pa_cons (pe_gc (by rfl) (T.gv_FIRST_NAMES)) pa_nil)) rfl)
      (pss_cons (ps_fld (pv 0) (pe_callTy (T := "dict") (call_dictK (kvs := kvNumbers) (by decide) fun h X => T.d_NUMBERS X) (by rfl) T.f_dict (by decide +kernel) (pa_cons (pe_gc (by rfl) (T.gv_FIRST_NUMBERS)) pa_nil)) rfl)
      (pss_cons (ps_fld (pv 0) pe_int rfl)
      (pss_cons (ps_fld (pv 0) pe_dnewK rfl)
      (pss_cons (ps_fld (pv 0) (pe_lst pa_nil) rfl)
      (pss_cons (ps_fld (pv 0) pe_dnewK rfl)
      (pss_cons (ps_fld (pv 0) (pe_lst pa_nil) rfl)
      (pss_cons (ps_fld (pv 0) (pe_mk c_mk_Logger hr (by decide) (by rfl) (pa_cons (pv 0) (pa_cons pe_str (pa_cons (pe_gc (by rfl) (T.c_WARNING)) pa_nil)))) rfl)
      (pss_cons (ps_fld (pv 0) (pe_mk c_mk_StreamHandler hr (by decide) (by rfl) (pa_cons (pv 0) pa_nil)) rfl)
      (pss_one (ps_expr (pe_bm0 PySem.F.plainAttrs_list PySem.F.slot_list_pop PySem.F.type_list_pop mt_pop (pe_fld (pv 0) rfl)))))))))))))))), ?_⟩
    refine ⟨_, rfl, _, rfl, y, _, dy, _, rfl, hy, T.cl_Yard, T.no_Yard_clock, csz rfl, ?_⟩
    rw [show putF "clock" (.int 0) ([] : List (Str × V)) = ([("clock", .int 0)] : List (Str × V)) from rfl]
    have Y0 : YS K H (L2.upd H y (.ins (ga K "Yard") dy ([("clock", .int 0)] : List (Str × V)))) y dy [("clock", .int 0)] [] := ⟨upd_same, (fun x h => nomatch h), List.nodup_nil, Kp.at rfl⟩
    generalize L2.upd H y (.ins (ga K "Yard") dy ([("clock", .int 0)] : List (Str × V))) = G0 at *
    refine fun st hst => ?_
    have Z0 := Y0.new (o := .dK []) hst
    refine ⟨_, rfl, y, _, dy, _, rfl, Z0.yE, T.cl_Yard, T.no_Yard_stream_texts, csz rfl, ?_⟩
    rw [pf_y2]
    have Y1 := Z0.set (fs' := ([("clock", .int 0), ("stream_texts", .ref st)] : List (Str × V)))
    generalize L2.upd (L2.upd G0 st (.dK [])) y (.ins (ga K "Yard") dy ([("clock", .int 0), ("stream_texts", .ref st)] : List (Str × V))) = G1 at *
    refine fun fr hfr => ?_
    have Z1 := Y1.new (o := .dK []) hfr
    refine ⟨_, rfl, y, _, dy, _, rfl, Z1.yE, T.cl_Yard, T.no_Yard_file_rows, csz rfl, ?_⟩
    rw [pf_y3]
    have Y2 := Z1.set (fs' := ([("clock", .int 0), ("stream_texts", .ref st), ("file_rows", .ref fr)] : List (Str × V)))
    generalize L2.upd (L2.upd G1 fr (.dK [])) y (.ins (ga K "Yard") dy ([("clock", .int 0), ("stream_texts", .ref st), ("file_rows", .ref fr)] : List (Str × V))) = G2 at *
    refine ⟨rfl, fun no hno => ?_⟩
    have Z2 := Y2.new (o := .dK kvNames) hno
    refine ⟨_, rfl, y, _, dy, _, rfl, Z2.yE, T.cl_Yard, T.no_Yard_names_of, csz rfl, ?_⟩
    rw [pf_y4]
    have Y3 := Z2.set (fs' := ([("clock", .int 0), ("stream_texts", .ref st), ("file_rows", .ref fr), ("names_of", .ref no)] : List (Str × V)))
    generalize L2.upd (L2.upd G2 no (.dK kvNames)) y (.ins (ga K "Yard") dy ([("clock", .int 0), ("stream_texts", .ref st), ("file_rows", .ref fr), ("names_of", .ref no)] : List (Str × V))) = G3 at *
    refine ⟨rfl, fun nu hnu => ?_⟩
    have Z3 := Y3.new (o := .dK kvNumbers) hnu
    refine ⟨_, rfl, y, _, dy, _, rfl, Z3.yE, T.cl_Yard, T.no_Yard_numbers_of, csz rfl, ?_⟩
    rw [pf_y5]
    have Y4 := Z3.set (fs' := ([("clock", .int 0), ("stream_texts", .ref st), ("file_rows", .ref fr), ("names_of", .ref no), ("numbers_of", .ref nu)] : List (Str × V)))
    generalize L2.upd (L2.upd G3 nu (.dK kvNumbers)) y (.ins (ga K "Yard") dy ([("clock", .int 0), ("stream_texts", .ref st), ("file_rows", .ref fr), ("names_of", .ref no), ("numbers_of", .ref nu)] : List (Str × V))) = G4 at *
    refine ⟨_, rfl, y, _, dy, _, rfl, Y4.yE, T.cl_Yard, T.no_Yard_bar_level, csz rfl, ?_⟩
    rw [pf_y6]
    have Y5 := Y4.set (fs' := ([("clock", .int 0), ("stream_texts", .ref st), ("file_rows", .ref fr), ("names_of", .ref no), ("numbers_of", .ref nu), ("bar_level", .int 0)] : List (Str × V)))
    generalize L2.upd G4 y (.ins (ga K "Yard") dy ([("clock", .int 0), ("stream_texts", .ref st), ("file_rows", .ref fr), ("names_of", .ref no), ("numbers_of", .ref nu), ("bar_level", .int 0)] : List (Str × V))) = G5 at *
    refine fun lm hlm => ?_
    have Z5 := Y5.new (o := .dK []) hlm
    refine ⟨_, rfl, y, _, dy, _, rfl, Z5.yE, T.cl_Yard, T.no_Yard_logger_map, csz rfl, ?_⟩
    rw [pf_y7]
    have Y6 := Z5.set (fs' := ([("clock", .int 0), ("stream_texts", .ref st), ("file_rows", .ref fr), ("names_of", .ref no), ("numbers_of", .ref nu), ("bar_level", .int 0), ("logger_map", .ref lm)] : List (Str × V)))
    generalize L2.upd (L2.upd G5 lm (.dK [])) y (.ins (ga K "Yard") dy ([("clock", .int 0), ("stream_texts", .ref st), ("file_rows", .ref fr), ("names_of", .ref no), ("numbers_of", .ref nu), ("bar_level", .int 0), ("logger_map", .ref lm)] : List (Str × V))) = G6 at *
    refine ⟨ssz rfl, fun mk hmk => ?_⟩
    have Z6 := Y6.new (o := .lst []) hmk
    refine ⟨_, rfl, y, _, dy, _, rfl, Z6.yE, T.cl_Yard, T.no_Yard_made, csz rfl, ?_⟩
    rw [pf_y8]
    have Y7 := Z6.set (fs' := ([("clock", .int 0), ("stream_texts", .ref st), ("file_rows", .ref fr), ("names_of", .ref no), ("numbers_of", .ref nu), ("bar_level", .int 0), ("logger_map", .ref lm), ("made", .ref mk)] : List (Str × V)))
    generalize L2.upd (L2.upd G6 mk (.lst [])) y (.ins (ga K "Yard") dy ([("clock", .int 0), ("stream_texts", .ref st), ("file_rows", .ref fr), ("names_of", .ref no), ("numbers_of", .ref nu), ("bar_level", .int 0), ("logger_map", .ref lm), ("made", .ref mk)] : List (Str × V))) = G7 at *
    refine fun hn hhn => ?_
    have Z7 := Y7.new (o := .dK []) hhn
    refine ⟨_, rfl, y, _, dy, _, rfl, Z7.yE, T.cl_Yard, T.no_Yard_handler_names, csz rfl, ?_⟩
    rw [pf_y9]
    have Y8 := Z7.set (fs' := ([("clock", .int 0), ("stream_texts", .ref st), ("file_rows", .ref fr), ("names_of", .ref no), ("numbers_of", .ref nu), ("bar_level", .int 0), ("logger_map", .ref lm), ("made", .ref mk), ("handler_names", .ref hn)] : List (Str × V)))
    generalize L2.upd (L2.upd G7 hn (.dK [])) y (.ins (ga K "Yard") dy ([("clock", .int 0), ("stream_texts", .ref st), ("file_rows", .ref fr), ("names_of", .ref no), ("numbers_of", .ref nu), ("bar_level", .int 0), ("logger_map", .ref lm), ("made", .ref mk), ("handler_names", .ref hn)] : List (Str × V))) = G8 at *
    refine ⟨ssz rfl, fun fa hfa => ?_⟩
    have Z8 := Y8.new (o := .lst []) hfa
    refine ⟨_, rfl, y, _, dy, _, rfl, Z8.yE, T.cl_Yard, T.no_Yard_failure_rows, csz rfl, ?_⟩
    rw [pf_y10]
    have Y9 := Z8.set (fs' := ([("clock", .int 0), ("stream_texts", .ref st), ("file_rows", .ref fr), ("names_of", .ref no), ("numbers_of", .ref nu), ("bar_level", .int 0), ("logger_map", .ref lm), ("made", .ref mk), ("handler_names", .ref hn), ("failure_rows", .ref fa)] : List (Str × V)))
    generalize L2.upd (L2.upd G8 fa (.lst [])) y (.ins (ga K "Yard") dy ([("clock", .int 0), ("stream_texts", .ref st), ("file_rows", .ref fr), ("names_of", .ref no), ("numbers_of", .ref nu), ("bar_level", .int 0), ("logger_map", .ref lm), ("made", .ref mk), ("handler_names", .ref hn), ("failure_rows", .ref fa)] : List (Str × V))) = G9 at *
    refine ⟨_, rfl, fun rt dxr hrt hdxr hner => ?_⟩
    have hrt' : L2.upd G9 dxr (.own rt) rt = none := by rw [upd_ne hner.symm]; exact hrt
    refine ⟨rt, dxr, y, "root", 30, rfl, upd_same, fun rfl_ rhl G10 hfl hhl hfh e1 e2 e3 kk => ⟨rfl, ?_⟩⟩
    have hk10 : Kp (fun b => b = rt) G9 G10 := (Kp.same (Same.tr (Same.nw hdxr) (Same.nw hrt'))).trans kk
    have hs10 : Same G9 G10 := fun b o e => hk10 b o e (fun z => by rw [z, hrt] at e; cases e)
    have hfl9 : G9 rfl_ = none := was_none (was_none hfl)
    have hhl9 : G9 rhl = none := was_none (was_none hhl)
    have n1 := Y9.free hrt
    have n2 := Y9.free hfl9
    have n3 := Y9.free hhl9
    have hrf : rt ≠ rfl_ := ne_of e1 e2 (fun z => nomatch z)
    have hrh : rt ≠ rhl := ne_of e1 e3 (fun z => nomatch z)
    have Y10 := (((Y9.same hs10).add e1 n1).add e2 ⟨n2.1, n2.2.1, ni_cons n2.2.2 hrf.symm⟩).add e3 ⟨n3.1, n3.2.1, ni_cons (ni_cons n3.2.2 hrh.symm) hfh.symm⟩
    refine ⟨_, rfl, y, _, dy, _, rfl, Y10.yE, T.cl_Yard, T.no_Yard_root, csz rfl, ?_⟩
    rw [pf_y11]
    have Y11 := Y10.set (fs' := ([("clock", .int 0), ("stream_texts", .ref st), ("file_rows", .ref fr), ("names_of", .ref no), ("numbers_of", .ref nu), ("bar_level", .int 0), ("logger_map", .ref lm), ("made", .ref mk), ("handler_names", .ref hn), ("failure_rows", .ref fa), ("root", .ref rt)] : List (Str × V)))
    generalize L2.upd G10 y (.ins (ga K "Yard") dy ([("clock", .int 0), ("stream_texts", .ref st), ("file_rows", .ref fr), ("names_of", .ref no), ("numbers_of", .ref nu), ("bar_level", .int 0), ("logger_map", .ref lm), ("made", .ref mk), ("handler_names", .ref hn), ("failure_rows", .ref fa), ("root", .ref rt)] : List (Str × V))) = G11 at *
    have hmk11 := (Y11.all (mk, .lst []) (by simp)).1
    refine ⟨_, rfl, fun lr dxl hlr hdxl hnel => ?_⟩
    have hlr' : L2.upd G11 dxl (.own lr) lr = none := by rw [upd_ne hnel.symm]; exact hlr
    have hsA := Same.tr (Same.nw (o := .own lr) hdxl) (Same.nw (o := .ins (ga K "StreamHandler") dxl []) hlr')
    have hyl : y ≠ lr := ne_of_none Y11.yE hlr
    refine ⟨lr, dxl, y, mk, _, [], "stderr", rfl, upd_same, ⟨dy, hsA _ _ Y11.yE⟩, by kernel_rfl, by kernel_rfl, hyl, hsA _ _ hmk11, by decide, fun lrf G12 hlf f1 f2 f3 kl => ⟨rfl, ?_⟩⟩
    have nl := Y11.free hlr
    have hlf11 : G11 lrf = none := was_none (was_none hlf)
    have nlf := Y11.free hlf11
    have hmkH : H mk = none := (Y11.all (mk, .lst []) (by simp)).2.1
    have hmky : mk ≠ y := (Y11.all (mk, .lst []) (by simp)).2.2
    have hk12 : Kp (fun b => b = lr ∨ b = mk) G11 G12 := (Kp.same hsA).trans kl
    have hnd := Y11.nd
    have Yb := Y11.sub (qs := [(rhl, .lst []), (rfl_, .lst []), (rt, .ins (ga K "Logger") dxr (lgF y rfl_ "root" 30 true false rhl .non)), (fa, .lst []), (hn, .dK []), (lm, .dK []), (nu, .dK kvNumbers), (no, .dK kvNames), (fr, .dK []), (st, .dK [])])
      (.cons₂ _ (.cons₂ _ (.cons₂ _ (.cons₂ _ (.cons₂ _ (.cons _ (.cons₂ _ (.cons₂ _ (.cons₂ _ (.cons₂ _ (.cons₂ _ .slnil)))))))))))
    have hmkps := nd_mid (l1 := [(rhl, .lst []), (rfl_, .lst []), (rt, .ins (ga K "Logger") dxr (lgF y rfl_ "root" 30 true false rhl .non)), (fa, .lst []), (hn, .dK [])]) (l2 := [(lm, .dK []), (nu, .dK kvNumbers), (no, .dK kvNames), (fr, .dK []), (st, .dK [])]) hnd
    have Y12 := Yb.kpM hk12 (fun z => z.elim hyl (fun e => hmky e.symm)) (fun x hx z => z.elim (fun e => by
      have q := (Yb.all x hx).1
      rw [e, hlr] at q
      cases q) (hmkps x hx)) (fun b z => z.elim (fun e => by rw [e]; exact nl.1) (fun e => by rw [e]; exact hmkH))
    have nl' := Yb.free hlr
    have nlf' := Yb.free hlf11
    have hlrne : lrf ≠ lr := ne_of f2 f1 (fun z => nomatch z)
    have hmklr : mk ≠ lr := ne_of_none hmk11 hlr
    have hmklf : mk ≠ lrf := ne_of_none hmk11 hlf11
    have Y13 := (Y12.add f1 nl').add f2 ⟨nlf'.1, nlf'.2.1, ni_cons nlf'.2.2 hlrne⟩
    refine ⟨_, rfl, y, _, dy, _, rfl, Y13.yE, T.cl_Yard, T.no_Yard_last_resort, csz rfl, ?_⟩
    rw [pf_y12]
    have Y14 := Y13.set (fs' := ydF 0 st fr no nu 0 lm mk hn fa rt lr)
    have hmk14 : L2.upd G12 y (.ins (ga K "Yard") dy (ydF 0 st fr no nu 0 lm mk hn fa rt lr)) mk = some (.lst [.ref lr]) := by rw [upd_ne hmky]; exact f3
    refine ⟨_, rfl, y, _, dy, _, _, rfl, Y14.yE, T.cl_Yard, T.no_Yard_made, (by kernel_rfl : _ = some (V.ref mk)), .inl ⟨rfl, _, SqL.of hmk14⟩, ?_⟩
    refine ⟨mk, _, _, rfl, rfl, hmk14, rfl, ?_⟩
    have Y15 := (Y14.kpM (M := fun b => b = mk) (Kp.at (o := .lst []) rfl) (fun e => hmky e.symm) (fun x hx e => by
      rcases List.mem_cons.mp hx with z | hx
      · rw [z] at e
        exact hmklf e.symm
      · rcases List.mem_cons.mp hx with z | hx
        · rw [z] at e
          exact hmklr e.symm
        · exact hmkps x hx e) (fun b e => by rw [e]; exact hmkH)).add upd_same ⟨hmkH, hmky, fun z => by
      obtain ⟨x, hx, e⟩ := List.mem_map.mp z
      rcases List.mem_cons.mp hx with q | hx
      · rw [q] at e
        exact hmklf e.symm
      · rcases List.mem_cons.mp hx with q | hx
        · rw [q] at e
          exact hmklr e.symm
        · exact hmkps x hx e⟩
    have g := fun (p : Addr) (o : HO) (h : (p, o) ∈ _) => (Y15.all (p, o) h).1
    exact k st fr no nu lm mk hn fa rt lr rfl_ rhl lrf _ Y15.nd (fun b hb => Y15.allH b hb) ⟨⟨dy, Y15.yE⟩, g st _ (by simp), g fr _ (by simp), g no _ (by simp), g nu _ (by simp), g lm _ (by simp), g mk _ (by simp), g hn _ (by simp), g fa _ (by simp), ⟨dxr, g rt _ (by simp)⟩, g rfl_ _ (by simp), g rhl _ (by simp), ⟨dxl, g lr _ (by simp)⟩, g lrf _ (by simp)⟩ Y15.kp
end
end Ry
namespace Ry
open PySem PySem.Spec PyProof.Rows L2 He RyH
open C8 (pss_cut tCut Cal Met Mak pe_c pe_mk pe_mt pe_mt0 pe_gc)
/-! ### more of a yard -/
def spAddLevelName (K : PySem.W.Frag) : Sp := fun vs H Q _ => ∃ (y no nu : Addr) (fy : List (Str × V)) (lv : Int) (nm : Str) (ns us : List (Key × V)), vs = [.ref y, .int lv, .str nm] ∧ YIns K H y fy ∧ lk fy "names_of" = some (.ref no) ∧ lk fy "numbers_of" = some (.ref nu) ∧
  H no = some (.dK ns) ∧ H nu = some (.dK us) ∧ no ≠ nu ∧ ns.length < 1000 ∧ us.length < 1000 ∧ Q .non (upd (upd H no (.dK (putK ns (.inl lv) (.str nm)))) nu (.dK (putK us (kS nm) (.int lv))))
def spDisable (K : PySem.W.Frag) : Sp := fun vs H Q _ => ∃ (y dy : Addr) (fy : List (Str × V)) (lv : Int), vs = [.ref y, .int lv] ∧ H y = some (.ins (ga K "Yard") dy fy) ∧ lk fy "level_of" = none ∧ fy.length < 1000 ∧ Q .non (upd H y (.ins (ga K "Yard") dy (putF "bar_level" (.int lv) fy)))
section
variable {P : Program} {w : World} {K : PySem.W.Frag} {mg : Str → Option Value} {base : Heap}
theorem met_Yard_getLogger (T : Txt w K mg) : Met P w K mg base 4 (ga K "Yard") "getLogger" (spGetLogger K) [] := by
  obtain ⟨fd, f, F⟩ := fn_Yard_getLogger (P := P) (base := base) T
  obtain ⟨ds, hV, hB⟩ := F.binds1 (ps := ["self", "name"]) 2 1 (fun z => nomatch z) rfl (fun _ _ _ _ _ _ _ us its h1 h2 => match us, its, h1, h2 with | [_, _], [_], _, _ => ⟨_, rfl, rfl⟩)
  refine ⟨_, fd, _, _, T.cl_Yard, T.me_Yard_getLogger, ?_, hB, hV⟩
  exact f
theorem mk_Yard (T : Txt w K mg) : Mak P w K mg base 5 "Yard" (ga K "Yard") (spYardInit K) [(.int (0))] := by
  obtain ⟨fd, f, F⟩ := fn_Yard_init (P := P) (base := base) T
  obtain ⟨ds, hV, hB⟩ := F.binds1 (ps := ["self", "now"]) 1 0 (fun z => nomatch z) rfl (fun _ _ _ _ _ _ _ us its h1 h2 => match us, its, h1, h2 with | [_], [_], _, _ => ⟨_, rfl, rfl⟩)
  refine ⟨_, fd, _, _, T.mk_Yard, ?_, T.m_Yard, hB, hV⟩
  exact f
theorem sc_Yard_add_level_name : FnScope ["self", "level", "name"] ["self", "level", "name"] (defScope s_Yard_add_level_name) := ⟨rfl, rfl, rfl, by decide +kernel, rfl, by decide +kernel, by decide +kernel⟩
theorem fn_Yard_add_level_name (T : Txt w K mg) : ∃ fd, FnOk P w K mg base CX0 1 (ma K (ga K "Yard") "add_level_name") fd ["self", "level", "name"] (spAddLevelName K) ∧ FunD K "add_level_name" "Yard.add_level_name" (defArgs s_Yard_add_level_name) (defBody s_Yard_add_level_name) (defScope s_Yard_add_level_name) (He.DefD.dvs K d_Yard_add_level_name) [] (ma K (ga K "Yard") "add_level_name") fd := by
  obtain ⟨fd, F⟩ := T.df_Yard_add_level_name
  refine ⟨fd, F.ok sc_Yard_add_level_name (fun vs H Q E h => ?_) (fun cdv A outer s H vs Q E hr h => ?_), F⟩
  · obtain ⟨_, _, _, _, _, _, _, _, rfl, _⟩ := h
    rfl
  · obtain ⟨y, no, nu, fy, lv, nm, ns, us, rfl, ⟨dy, hy⟩, h1, h2, e1, e2, hne, l1, l2, k⟩ := h
    refine ⟨_, PSs.nox (pss_cons (ps_dput (hu_of hr) (pe_fld (pv 0) rfl) (pv 1) (pv 2) rfl)
      (pss_one (ps_dput (hu_of hr) (pe_fld (pv 0) rfl) (pv 2) (pv 1) rfl))), ?_⟩
    refine ⟨_, rfl, _, rfl, y, _, dy, fy, _, rfl, hy, T.cl_Yard, T.no_Yard_names_of, h1, ?_⟩
    refine ⟨_, rfl, no, _, rfl, DPut.k (k := Sum.inl lv) e1 (by rw [sizeLine_eq]; omega), ?_⟩
    have hyn : y ≠ no := ne_of hy e1 (fun z => nomatch z)
    refine ⟨_, rfl, _, rfl, y, _, dy, fy, _, rfl, by rw [upd_ne hyn]; exact hy, T.cl_Yard, T.no_Yard_numbers_of, h2, ?_⟩
    refine ⟨_, rfl, nu, _, rfl, DPut.k (k := kS nm) (by rw [upd_ne hne.symm]; exact e2) (by rw [sizeLine_eq]; omega), k⟩
theorem met_Yard_add_level_name (T : Txt w K mg) : Met P w K mg base 1 (ga K "Yard") "add_level_name" (spAddLevelName K) [] := by
  obtain ⟨fd, f, F⟩ := fn_Yard_add_level_name (P := P) (base := base) T
  have hB : Binds K fd ["self", "level", "name"] [] := F.bindsN (fun _ _ _ _ _ _ us hl => match us, hl with | [_, _, _], _ => rfl)
  have hV : Vals [] ([] : List Value) := .nil
  refine ⟨_, fd, _, _, T.cl_Yard, T.me_Yard_add_level_name, ?_, hB, hV⟩
  exact f
theorem sc_Yard_disable : FnScope ["self", "level"] ["self", "level"] (defScope s_Yard_disable) := ⟨rfl, rfl, rfl, by decide +kernel, rfl, by decide +kernel, by decide +kernel⟩
theorem fn_Yard_disable (T : Txt w K mg) : ∃ fd, FnOk P w K mg base CX0 3 (ma K (ga K "Yard") "disable") fd ["self", "level"] (spDisable K) ∧ FunD K "disable" "Yard.disable" (defArgs s_Yard_disable) (defBody s_Yard_disable) (defScope s_Yard_disable) (He.DefD.dvs K d_Yard_disable) [] (ma K (ga K "Yard") "disable") fd := by
  obtain ⟨fd, F⟩ := T.df_Yard_disable
  have c_Yard_level_of := met_Yard_level_of (P := P) (base := base) T
  refine ⟨fd, F.ok sc_Yard_disable (fun vs H Q E h => ?_) (fun cdv A outer s H vs Q E hr h => ?_), F⟩
  · obtain ⟨_, _, _, _, rfl, _⟩ := h
    rfl
  · obtain ⟨y, dy, fy, lv, rfl, hy, hlo, len, k⟩ := h
    refine ⟨_, PSs.nox (pss_one (ps_fld (pv 0) (pe_mt c_Yard_level_of hr (by decide) (pv 0) (pa_cons (pv 1) pa_nil)) rfl)), ?_⟩
    refine ⟨_, rfl, y, dy, fy, rfl, hy, hlo, _, rfl, y, lv, rfl, ?_⟩
    exact ⟨_, rfl, y, _, dy, fy, rfl, hy, T.cl_Yard, T.no_Yard_bar_level, len, k⟩
end
end Ry
namespace Ry
open PySem PySem.Spec PyProof.Rows L2 He RyH
open C8 (pss_cut tCut Cal Met Mak pe_c pe_mk pe_mt pe_mt0 pe_gc)
/-! ### the names of a yard's loggers -/
def spLoggers (K : PySem.W.Frag) : Sp := fun vs H Q _ => ∃ (y lm : Addr) (fy : List (Str × V)) (rows : List (Str × Addr)), vs = [.ref y] ∧ YIns K H y fy ∧ lk fy "logger_map" = some (.ref lm) ∧ H lm = some (.dK (rows.map rowE)) ∧ rows.length < 64 ∧
  ∀ p (ys : List Str), H p = none → ys.Perm (rows.map (·.1)) → sortedS ys = true → Q (.ref p) (upd H p (.lst (ys.map V.str)))
section
variable {P : Program} {w : World} {K : PySem.W.Frag} {mg : Str → Option Value} {base : Heap}
theorem met_Yard_disable (T : Txt w K mg) : Met P w K mg base 3 (ga K "Yard") "disable" (spDisable K) [] := by
  obtain ⟨fd, f, F⟩ := fn_Yard_disable (P := P) (base := base) T
  obtain ⟨ds, hV, hB⟩ := F.binds1 (ps := ["self", "level"]) 2 1 (fun z => nomatch z) rfl (fun _ _ _ _ _ _ _ us its h1 h2 => match us, its, h1, h2 with | [_, _], [_], _, _ => ⟨_, rfl, rfl⟩)
  refine ⟨_, fd, _, _, T.cl_Yard, T.me_Yard_disable, ?_, hB, hV⟩
  exact f
theorem sc_Yard_loggers : FnScope ["self"] ["self"] (defScope s_Yard_loggers) := ⟨rfl, rfl, rfl, by decide +kernel, rfl, by decide +kernel, by decide +kernel⟩
theorem fn_Yard_loggers (T : Txt w K mg) : ∃ fd, FnOk P w K mg base CX0 1 (ma K (ga K "Yard") "loggers") fd ["self"] (spLoggers K) ∧ FunD K "loggers" "Yard.loggers" (defArgs s_Yard_loggers) (defBody s_Yard_loggers) (defScope s_Yard_loggers) (He.DefD.dvs K d_Yard_loggers) [] (ma K (ga K "Yard") "loggers") fd := by
  obtain ⟨fd, F⟩ := T.df_Yard_loggers
  refine ⟨fd, F.ok sc_Yard_loggers (fun vs H Q E h => ?_) (fun cdv A outer s H vs Q E hr h => ?_), F⟩
  · obtain ⟨_, _, _, _, rfl, _⟩ := h
    rfl
  · obtain ⟨y, lm, fy, rows, rfl, ⟨dy, hy⟩, hm, e, len, k⟩ := h
    refine ⟨_, PSs.nox (pss_one (ps_ret (pe_callB (id := "sorted") (call_sortedD rfl) (by rfl) T.f_sorted (by decide +kernel) (pa_cons (pe_fld (pv 0) rfl) pa_nil)))), ?_⟩
    refine ⟨_, rfl, y, _, dy, fy, _, rfl, hy, T.cl_Yard, T.no_Yard_logger_map, hm, ?_⟩
    refine ⟨lm, _, rows.map (·.1), rfl, .inl e, by rw [List.map_map, List.map_map]; rfl, by rw [List.length_map]; exact len, ?_⟩
    exact fun ys p h1 h2 h3 => k p ys h3 h1 h2
theorem met_Yard_loggers (T : Txt w K mg) : Met P w K mg base 1 (ga K "Yard") "loggers" (spLoggers K) [] := by
  obtain ⟨fd, f, F⟩ := fn_Yard_loggers (P := P) (base := base) T
  have hB : Binds K fd ["self"] [] := F.bindsN (fun _ _ _ _ _ _ us hl => match us, hl with | [_], _ => rfl)
  have hV : Vals [] ([] : List Value) := .nil
  refine ⟨_, fd, _, _, T.cl_Yard, T.me_Yard_loggers, ?_, hB, hV⟩
  exact f
end
end Ry
namespace Ry
open PySem PySem.Spec PyProof.Rows L2 He RyH
open C8 (pss_cut tCut Cal Met Mak pe_c pe_mk pe_mt pe_mt0 pe_gc)
/-! ### a yard as a whole -/
/-- whose an address is -/
inductive Tg where
  | y | st | fr | no | nu | lm | mk | hn | fa | lr | lrf
  | lg (k : Str) | lf (k : Str) | lh (k : Str) | hd (i : Nat) | hf (i : Nat)
/-- a filter: a Filter of that name, a function -/
inductive FlR where
  | fil (a : Addr) (x : Str) | fn (a : Addr)
def FlR.addr : FlR → Addr
  | .fil a _ => a
  | .fn a => a
def FlOk (K : PySem.W.Frag) (H : Hp) (tg : Addr → Option Tg) : FlR → Prop
  | .fil a x => tg a = none ∧ ∃ dx, H a = some (.ins (ga K "Filter") dx ([("name", .str x)] : List (Str × V)))
  | .fn a => tg a = none ∧ H a = some (RyR.FnO a)
structure LgR where
  a : Addr
  fl : Addr
  hl : Addr
  name : Str
  level : Int
  prop : Bool
  dis : Bool
  fs : List FlR
  hs : List Addr
  par : V
structure LgOk (K : PySem.W.Frag) (H : Hp) (tg : Addr → Option Tg) (y : Addr) (key : Str) (r : LgR) : Prop where
  ta : tg r.a = some (.lg key)
  tf : tg r.fl = some (.lf key)
  th : tg r.hl = some (.lh key)
  aE : ∃ dx, H r.a = some (.ins (ga K "Logger") dx (lgF y r.fl r.name r.level r.prop r.dis r.hl r.par))
  flE : H r.fl = some (.lst ((r.fs.map FlR.addr).map V.ref))
  hlE : H r.hl = some (.lst (r.hs.map V.ref))
  fs : ∀ f ∈ r.fs, FlOk K H tg f
structure HdR where
  a : Addr
  fl : Addr
  st : Option Str
  level : Int
  term : Str
  fmt : Option (Addr × Addr × Bool × List FP)
  name : Option Str
  closed : Bool
  fs : List FlR
def fmtVal : Option (Addr × Addr × Bool × List FP) → V
  | none => .non
  | some x => .ref x.1
def hdFs (y : Addr) (h : HdR) : List (Str × V) := hdB y h.fl h.level (fmtVal h.fmt) (calV h.name) h.term h.closed ++ (match h.st with | none => [] | some x => ([("stream", .str x)] : List (Str × V)))
/-- of what shapes are tagged things -/
def okShape : HO → Prop
  | .lst _ => True
  | .dK _ => True
  | .ins _ _ fs => 7 ≤ fs.length
  | _ => False
def JAtT (K : PySem.W.Frag) (H : Hp) (tg : Addr → Option Tg) (v : V) : JP → Prop
  | .txt l => v = .str (tx l)
  | .fld nm => ∃ c dx, v = .ref c ∧ tg c = none ∧ H c = some (.ins (ga K "Field") dx (fdF (tx nm)))
/-- a formatter, none of its parts is tagged -/
def FmT (K : PySem.W.Frag) (H : Hp) (tg : Addr → Option Tg) (a : Addr) (b : Bool) (ps : List FP) (dd : Addr) : Prop := ∃ dx q js, tg a = none ∧ tg dd = none ∧ tg q = none ∧ H a = some (.ins (ga K "Formatter") dx (fmF (fmtText b ps) b q dd)) ∧ H q = some (.tup js) ∧ Paired (JAtT K H tg) js (joinT (toks ps)) ∧ H dd = some (.dK [])
theorem FmT.of {K : PySem.W.Frag} {H H0 : Hp} {tg : Addr → Option Tg} {a dd : Addr} {b : Bool} {ps : List FP} (h : FmAt K H a b ps dd) (ha : tg a = none) (hd : tg dd = none) (hs : ∀ c t, tg c = some t → ∃ o, H c = some o ∧ okShape o) : FmT K H tg a b ps dd := by
  obtain ⟨dx, q, js, e1, e2, e3, e4⟩ := h
  have un : ∀ c o, H c = some o → ¬ okShape o → tg c = none := fun c o e n => by
    cases z : tg c with
    | none => rfl
    | some t =>
      obtain ⟨o', e', k⟩ := hs c t z
      rw [e] at e'
      cases e'
      exact absurd k n
  refine ⟨dx, q, js, ha, hd, un q _ e2 (fun z => z), e1, e2, Paired.impl e3 fun v j hj => ?_, e4⟩
  cases j with
  | txt l => exact hj
  | fld nm =>
    obtain ⟨c, d, e, k⟩ := hj
    exact ⟨c, d, e, un c _ k (fun z : 7 ≤ 5 => absurd z (by decide)), k⟩
structure HdOk (K : PySem.W.Frag) (H : Hp) (tg : Addr → Option Tg) (y : Addr) (i : Nat) (h : HdR) : Prop where
  ta : tg h.a = some (.hd i)
  tf : tg h.fl = some (.hf i)
  aE : ∃ dx, H h.a = some (.ins (ga K (if h.st.isSome then "StreamHandler" else "NullHandler")) dx (hdFs y h))
  flE : H h.fl = some (.lst ((h.fs.map FlR.addr).map V.ref))
  fs : ∀ f ∈ h.fs, FlOk K H tg f
  fm : ∀ a dd b ps, h.fmt = some (a, dd, b, ps) → FmT K H tg a b ps dd
end Ry
namespace Ry
open PySem PySem.Spec PyProof.Rows L2 He RyH
open C8 (pss_cut tCut Cal Met Mak pe_c pe_mk pe_mt pe_mt0 pe_gc)
/-! ### what stays -/
/-- all but tagged things that M names stay -/
def KpT (tg : Addr → Option Tg) (M : Tg → Prop) (H H' : Hp) : Prop := ∀ b o, H b = some o → (∀ t, tg b = some t → ¬ M t) → H' b = some o
theorem KpT.at {tg : Addr → Option Tg} {M : Tg → Prop} {H : Hp} {p : Addr} {t : Tg} {o : HO} (h : tg p = some t) (m : M t) : KpT tg M H (upd H p o) := fun b u e n => by
  rw [upd_ne (fun z => n t (by rw [z]; exact h) m)]
  exact e
theorem KpT.same {tg : Addr → Option Tg} {M : Tg → Prop} {H H' : Hp} (k : Same H H') : KpT tg M H H' := fun b o e _ => k b o e
theorem KpT.trans {tg : Addr → Option Tg} {M : Tg → Prop} {H H1 H2 : Hp} (a : KpT tg M H H1) (b : KpT tg M H1 H2) : KpT tg M H H2 := fun c o e n => b c o (a c o e n) n
theorem FlOk.kp {K : PySem.W.Frag} {tg : Addr → Option Tg} {M : Tg → Prop} {H H' : Hp} {f : FlR} (h : FlOk K H tg f) (k : KpT tg M H H') : FlOk K H' tg f := by
  cases f with
  | fil a x =>
    obtain ⟨t, dx, e⟩ := h
    exact ⟨t, dx, k _ _ e fun u z => by rw [t] at z; cases z⟩
  | fn a =>
    obtain ⟨t, e⟩ := h
    exact ⟨t, k _ _ e fun u z => by rw [t] at z; cases z⟩
theorem LgOk.kp {K : PySem.W.Frag} {tg : Addr → Option Tg} {M : Tg → Prop} {H H' : Hp} {y : Addr} {key : Str} {r : LgR} (h : LgOk K H tg y key r) (k : KpT tg M H H') (n1 : ¬ M (.lg key)) (n2 : ¬ M (.lf key)) (n3 : ¬ M (.lh key)) : LgOk K H' tg y key r := by
  obtain ⟨dx, e⟩ := h.aE
  exact ⟨h.ta, h.tf, h.th, ⟨dx, k _ _ e fun t z => by rw [h.ta] at z; cases z; exact n1⟩, k _ _ h.flE fun t z => by rw [h.tf] at z; cases z; exact n2, k _ _ h.hlE fun t z => by rw [h.th] at z; cases z; exact n3, fun f hf => (h.fs f hf).kp k⟩
theorem FmT.kp {K : PySem.W.Frag} {tg : Addr → Option Tg} {M : Tg → Prop} {H H' : Hp} {a dd : Addr} {b : Bool} {ps : List FP} (h : FmT K H tg a b ps dd) (k : KpT tg M H H') : FmT K H' tg a b ps dd := by
  obtain ⟨dx, q, js, t1, t2, t3, e1, e2, e3, e4⟩ := h
  have kk : ∀ c o, tg c = none → H c = some o → H' c = some o := fun c o z e => k _ _ e fun u z' => by rw [z] at z'; cases z'
  refine ⟨dx, q, js, t1, t2, t3, kk _ _ t1 e1, kk _ _ t3 e2, Paired.impl e3 fun v j hj => ?_, kk _ _ t2 e4⟩
  cases j with
  | txt l => exact hj
  | fld nm =>
    obtain ⟨c, d, e, z, k⟩ := hj
    exact ⟨c, d, e, z, kk _ _ z k⟩
theorem HdOk.kp {K : PySem.W.Frag} {tg : Addr → Option Tg} {M : Tg → Prop} {H H' : Hp} {y : Addr} {i : Nat} {h : HdR} (x : HdOk K H tg y i h) (k : KpT tg M H H') (n1 : ¬ M (.hd i)) (n2 : ¬ M (.hf i)) : HdOk K H' tg y i h := by
  obtain ⟨dx, e⟩ := x.aE
  exact ⟨x.ta, x.tf, ⟨dx, k _ _ e fun t z => by rw [x.ta] at z; cases z; exact n1⟩, k _ _ x.flE fun t z => by rw [x.tf] at z; cases z; exact n2, fun f hf => (x.fs f hf).kp k, fun a dd b ps e => (x.fm a dd b ps e).kp k⟩
end Ry
namespace Ry
open PySem PySem.Spec PyProof.Rows L2 He RyH
open C8 (pss_cut tCut Cal Met Mak pe_c pe_mk pe_mt pe_mt0 pe_gc)
/-! ### new tags -/
/-- tg' says of what stands in H what tg says -/
def Ag (H : Hp) (tg tg' : Addr → Option Tg) : Prop := ∀ b o, H b = some o → tg' b = tg b
def tgU (tg : Addr → Option Tg) (p : Addr) (t : Tg) : Addr → Option Tg := fun b => if b = p then some t else tg b
theorem tgU_same {tg : Addr → Option Tg} {p : Addr} {t : Tg} : tgU tg p t p = some t := if_pos rfl
theorem tgU_ne {tg : Addr → Option Tg} {p b : Addr} {t : Tg} (h : b ≠ p) : tgU tg p t b = tg b := if_neg h
theorem Ag.refl {H : Hp} {tg : Addr → Option Tg} : Ag H tg tg := fun _ _ _ => rfl
theorem Ag.new {H : Hp} {tg tg' : Addr → Option Tg} {p : Addr} {t : Tg} (a : Ag H tg tg') (hp : H p = none) : Ag H tg (tgU tg' p t) := fun b o e => by
  rw [tgU_ne (ne_of_none e hp)]
  exact a b o e
theorem FlOk.ag {K : PySem.W.Frag} {H : Hp} {tg tg' : Addr → Option Tg} {f : FlR} (h : FlOk K H tg f) (a : Ag H tg tg') : FlOk K H tg' f := by
  cases f with
  | fil b x =>
    obtain ⟨t, dx, e⟩ := h
    exact ⟨(a _ _ e).trans t, dx, e⟩
  | fn b =>
    obtain ⟨t, e⟩ := h
    exact ⟨(a _ _ e).trans t, e⟩
theorem LgOk.ag {K : PySem.W.Frag} {H : Hp} {tg tg' : Addr → Option Tg} {y : Addr} {key : Str} {r : LgR} (h : LgOk K H tg y key r) (a : Ag H tg tg') : LgOk K H tg' y key r := by
  obtain ⟨dx, e⟩ := h.aE
  exact ⟨(a _ _ e).trans h.ta, (a _ _ h.flE).trans h.tf, (a _ _ h.hlE).trans h.th, ⟨dx, e⟩, h.flE, h.hlE, fun f hf => (h.fs f hf).ag a⟩
theorem FmT.ag {K : PySem.W.Frag} {H : Hp} {tg tg' : Addr → Option Tg} {c dd : Addr} {b : Bool} {ps : List FP} (h : FmT K H tg c b ps dd) (a : Ag H tg tg') : FmT K H tg' c b ps dd := by
  obtain ⟨dx, q, js, t1, t2, t3, e1, e2, e3, e4⟩ := h
  refine ⟨dx, q, js, (a _ _ e1).trans t1, (a _ _ e4).trans t2, (a _ _ e2).trans t3, e1, e2, Paired.impl e3 fun v j hj => ?_, e4⟩
  cases j with
  | txt l => exact hj
  | fld nm =>
    obtain ⟨c, d, e, z, k⟩ := hj
    exact ⟨c, d, e, (a _ _ k).trans z, k⟩
theorem HdOk.ag {K : PySem.W.Frag} {H : Hp} {tg tg' : Addr → Option Tg} {y : Addr} {i : Nat} {h : HdR} (x : HdOk K H tg y i h) (a : Ag H tg tg') : HdOk K H tg' y i h := by
  obtain ⟨dx, e⟩ := x.aE
  exact ⟨(a _ _ e).trans x.ta, (a _ _ x.flE).trans x.tf, ⟨dx, e⟩, x.flE, fun f hf => (x.fs f hf).ag a, fun c dd b ps e => (x.fm c dd b ps e).ag a⟩
end Ry
namespace Ry
open PySem PySem.Spec PyProof.Rows L2 He RyH
open C8 (pss_cut tCut Cal Met Mak pe_c pe_mk pe_mt pe_mt0 pe_gc)
/-! ### the yard -/
structure YD where
  y : Addr
  st : Addr
  fr : Addr
  no : Addr
  nu : Addr
  lm : Addr
  made : Addr
  hn : Addr
  fa : Addr
  lr : Addr
  lrf : Addr
  bar : Int
  names : List (Key × V)
  numbers : List (Key × V)
  root : LgR
  lgs : List (Str × LgR)
  hds : List HdR
  mkx : List Addr
def YD.rows (Y : YD) : List (Str × Addr) := Y.lgs.map fun x => (x.1, x.2.a)
structure YardW (K : PySem.W.Frag) (H : Hp) (tg : Addr → Option Tg) (Y : YD) : Prop where
  ty : tg Y.y = some .y
  tst : tg Y.st = some .st
  tfr : tg Y.fr = some .fr
  tno : tg Y.no = some .no
  tnu : tg Y.nu = some .nu
  tlm : tg Y.lm = some .lm
  tmk : tg Y.made = some .mk
  thn : tg Y.hn = some .hn
  tfa : tg Y.fa = some .fa
  tlr : tg Y.lr = some .lr
  tlf : tg Y.lrf = some .lrf
  yE : ∃ dy, H Y.y = some (.ins (ga K "Yard") dy (ydF 0 Y.st Y.fr Y.no Y.nu Y.bar Y.lm Y.made Y.hn Y.fa Y.root.a Y.lr))
  stE : H Y.st = some (.dK [])
  frE : H Y.fr = some (.dK [])
  noE : H Y.no = some (.dK Y.names)
  nuE : H Y.nu = some (.dK Y.numbers)
  lmE : H Y.lm = some (.dK (Y.rows.map rowE))
  mkE : H Y.made = some (.lst ((Y.hds.map fun h => V.ref h.a) ++ Y.mkx.map V.ref))
  hnE : H Y.hn = some (.dK [])
  faE : H Y.fa = some (.lst [])
  lrE : ∃ dx, H Y.lr = some (.ins (ga K "StreamHandler") dx (hdB Y.y Y.lrf 0 .non .non "\n" false ++ ([("stream", .str "stderr")] : List (Str × V))))
  lrfE : H Y.lrf = some (.lst [])
  root : LgOk K H tg Y.y "" Y.root ∧ Y.root.name = "root"
  lgs : ∀ x ∈ Y.lgs, LgOk K H tg Y.y x.1 x.2 ∧ x.2.name = x.1 ∧ x.1 ∈ logMenu
  nd : (Y.lgs.map (·.1)).Nodup
  hds : ∀ i h, Y.hds[i]? = some h → HdOk K H tg Y.y i h
  live : ∀ b t, tg b = some t → ∃ o, H b = some o ∧ okShape o
end Ry
namespace Ry
open PySem PySem.Spec PyProof.Rows L2 He RyH
open C8 (pss_cut tCut Cal Met Mak pe_c pe_mk pe_mt pe_mt0 pe_gc)
/-! ### the yard: what stays -/
theorem YardW.same {K : PySem.W.Frag} {H H' : Hp} {tg : Addr → Option Tg} {Y : YD} (h : YardW K H tg Y) (k : Same H H') : YardW K H' tg Y := by
  have kt : KpT tg (fun _ => False) H H' := KpT.same k
  obtain ⟨dy, ey⟩ := h.yE
  obtain ⟨dl, el⟩ := h.lrE
  exact { h with
    yE := ⟨dy, k _ _ ey⟩, stE := k _ _ h.stE, frE := k _ _ h.frE, noE := k _ _ h.noE, nuE := k _ _ h.nuE, lmE := k _ _ h.lmE, mkE := k _ _ h.mkE, hnE := k _ _ h.hnE, faE := k _ _ h.faE, lrE := ⟨dl, k _ _ el⟩, lrfE := k _ _ h.lrfE
    root := ⟨h.root.1.kp kt (fun z => z) (fun z => z) (fun z => z), h.root.2⟩
    lgs := fun x hx => ⟨(h.lgs x hx).1.kp kt (fun z => z) (fun z => z) (fun z => z), (h.lgs x hx).2⟩
    hds := fun i x hx => (h.hds i x hx).kp kt (fun z => z) (fun z => z)
    live := fun b t e => by
      obtain ⟨o, a, s⟩ := h.live b t e
      exact ⟨o, k _ _ a, s⟩ }
end Ry
namespace Ry
open PySem PySem.Spec PyProof.Rows L2 He RyH
open C8 (pss_cut tCut Cal Met Mak pe_c pe_mk pe_mt pe_mt0 pe_gc)
/-! ### one logger of the yard is changed -/
def YD.setLg (Y : YD) (k : Str) (r : LgR) : YD := { Y with lgs := Y.lgs.map fun x => if x.1 = k then (k, r) else x }
def mLg (k : Str) : Tg → Prop := fun t => t = .lg k ∨ t = .lf k ∨ t = .lh k
theorem live_upd {tg : Addr → Option Tg} {H : Hp} {p : Addr} {o : HO} (h : ∀ b t, tg b = some t → ∃ o, H b = some o ∧ okShape o) (ho : okShape o) : ∀ b t, tg b = some t → ∃ o', L2.upd H p o b = some o' ∧ okShape o' := fun b t e => by
  by_cases z : b = p
  · exact ⟨o, by rw [z, upd_same], ho⟩
  · obtain ⟨o', e', k⟩ := h b t e
    exact ⟨o', by rw [upd_ne z]; exact e', k⟩
/-- all but one logger's things -/
theorem YardW.rootSet {K : PySem.W.Frag} {H H' : Hp} {tg : Addr → Option Tg} {Y : YD} {r : LgR} (h : YardW K H tg Y) (k : KpT tg (mLg "") H H') (hr : LgOk K H' tg Y.y "" r) (ha : r.a = Y.root.a) (hn : r.name = "root") (hl : ∀ b t, tg b = some t → ∃ o, H' b = some o ∧ okShape o) (hne : ∀ x ∈ Y.lgs, x.1 ≠ "") : YardW K H' tg { Y with root := r } := by
  obtain ⟨dy, ey⟩ := h.yE
  obtain ⟨dl, el⟩ := h.lrE
  have kk : ∀ {b o t}, H b = some o → tg b = some t → ¬ mLg "" t → H' b = some o := fun {b o t} e et n => k b o e fun u z => by rw [et] at z; cases z; exact n
  have off : ∀ t : Tg, (∀ k, t ≠ .lg k) → (∀ k, t ≠ .lf k) → (∀ k, t ≠ .lh k) → ¬ mLg "" t := fun t a b c z => by rcases z with z | z | z <;> first | exact a _ z | exact b _ z | exact c _ z
  have o1 : ∀ t : Tg, t = .y ∨ t = .st ∨ t = .fr ∨ t = .no ∨ t = .nu ∨ t = .lm ∨ t = .mk ∨ t = .hn ∨ t = .fa ∨ t = .lr ∨ t = .lrf → ¬ mLg "" t := fun t z => by
    rcases z with z | z | z | z | z | z | z | z | z | z | z <;> (subst z; rintro (z | z | z) <;> cases z)
  exact { h with
    yE := ⟨dy, by rw [ha]; exact kk ey h.ty (o1 _ (by simp))⟩, stE := kk h.stE h.tst (o1 _ (by simp)), frE := kk h.frE h.tfr (o1 _ (by simp)), noE := kk h.noE h.tno (o1 _ (by simp)), nuE := kk h.nuE h.tnu (o1 _ (by simp)), lmE := kk h.lmE h.tlm (o1 _ (by simp)),
    mkE := kk h.mkE h.tmk (o1 _ (by simp)), hnE := kk h.hnE h.thn (o1 _ (by simp)), faE := kk h.faE h.tfa (o1 _ (by simp)), lrE := ⟨dl, kk el h.tlr (o1 _ (by simp))⟩, lrfE := kk h.lrfE h.tlf (o1 _ (by simp))
    root := ⟨hr, hn⟩
    lgs := fun x hx => ⟨(h.lgs x hx).1.kp k (by rintro (z | z | z) <;> first | exact hne x hx (Tg.lg.inj z) | cases z) (by rintro (z | z | z) <;> first | exact hne x hx (Tg.lf.inj z) | cases z) (by rintro (z | z | z) <;> first | exact hne x hx (Tg.lh.inj z) | cases z), (h.lgs x hx).2⟩
    hds := fun i x hx => (h.hds i x hx).kp k (by rintro (z | z | z) <;> cases z) (by rintro (z | z | z) <;> cases z)
    live := hl }
end Ry
namespace Ry
open PySem PySem.Spec PyProof.Rows L2 He RyH
open C8 (pss_cut tCut Cal Met Mak pe_c pe_mk pe_mt pe_mt0 pe_gc)
/-- another logger -/
theorem YardW.lgsSet {K : PySem.W.Frag} {H H' : Hp} {tg : Addr → Option Tg} {Y : YD} {key : Str} {r0 r : LgR} (h : YardW K H tg Y) (hm : (key, r0) ∈ Y.lgs) (k : KpT tg (mLg key) H H') (hr : LgOk K H' tg Y.y key r) (ha : r.a = r0.a) (hn : r.name = key) (hl : ∀ b t, tg b = some t → ∃ o, H' b = some o ∧ okShape o) (hk : key ≠ "") : YardW K H' tg (Y.setLg key r) := by
  obtain ⟨dy, ey⟩ := h.yE
  obtain ⟨dl, el⟩ := h.lrE
  have kk : ∀ {b o t}, H b = some o → tg b = some t → ¬ mLg key t → H' b = some o := fun {b o t} e et n => k b o e fun u z => by rw [et] at z; cases z; exact n
  have o1 : ∀ t : Tg, t = .y ∨ t = .st ∨ t = .fr ∨ t = .no ∨ t = .nu ∨ t = .lm ∨ t = .mk ∨ t = .hn ∨ t = .fa ∨ t = .lr ∨ t = .lrf → ¬ mLg key t := fun t z => by
    rcases z with z | z | z | z | z | z | z | z | z | z | z <;> (subst z; rintro (z | z | z) <;> cases z)
  have uniq : ∀ x ∈ Y.lgs, x.1 = key → x.2 = r0 := fun x hx e => by
    obtain ⟨i, hi, e1⟩ := List.getElem_of_mem hx
    obtain ⟨j, hj, e2⟩ := List.getElem_of_mem hm
    have a1 : Y.lgs[i]? = some x := by rw [List.getElem?_eq_getElem hi, e1]
    have a2 : Y.lgs[j]? = some (key, r0) := by rw [List.getElem?_eq_getElem hj, e2]
    have z1 := lookup_nd h.nd a1
    have z2 := lookup_nd h.nd a2
    rw [e] at z1
    have z3 : Y.lgs.lookup key = some r0 := z2
    rw [z1] at z3
    exact Option.some.inj z3
  have hrows : (Y.setLg key r).rows = Y.rows := by
    unfold YD.setLg YD.rows
    rw [List.map_map]
    refine List.map_congr_left fun x hx => ?_
    show ((if x.1 = key then (key, r) else x).1, (if x.1 = key then (key, r) else x).2.a) = (x.1, x.2.a)
    by_cases e : x.1 = key
    · rw [if_pos e, uniq x hx e, ha, e]
    · rw [if_neg e]
  exact { h with
    yE := ⟨dy, kk ey h.ty (o1 _ (by simp))⟩, stE := kk h.stE h.tst (o1 _ (by simp)), frE := kk h.frE h.tfr (o1 _ (by simp)), noE := kk h.noE h.tno (o1 _ (by simp)), nuE := kk h.nuE h.tnu (o1 _ (by simp)), lmE := by rw [hrows]; exact kk h.lmE h.tlm (o1 _ (by simp)),
    mkE := kk h.mkE h.tmk (o1 _ (by simp)), hnE := kk h.hnE h.thn (o1 _ (by simp)), faE := kk h.faE h.tfa (o1 _ (by simp)), lrE := ⟨dl, kk el h.tlr (o1 _ (by simp))⟩, lrfE := kk h.lrfE h.tlf (o1 _ (by simp))
    root := ⟨h.root.1.kp k (by rintro (z | z | z) <;> first | exact hk (Tg.lg.inj z).symm | cases z) (by rintro (z | z | z) <;> first | exact hk (Tg.lf.inj z).symm | cases z) (by rintro (z | z | z) <;> first | exact hk (Tg.lh.inj z).symm | cases z), h.root.2⟩
    lgs := fun x hx => by
      obtain ⟨x0, hx0, e⟩ := List.mem_map.mp (show x ∈ Y.lgs.map _ from hx)
      by_cases e1 : x0.1 = key
      · rw [if_pos e1] at e
        rw [← e]
        exact ⟨hr, hn, by rw [← e1]; exact (h.lgs x0 hx0).2.2⟩
      · rw [if_neg e1] at e
        rw [← e]
        exact ⟨(h.lgs x0 hx0).1.kp k (by rintro (z | z | z) <;> first | exact e1 (Tg.lg.inj z) | cases z) (by rintro (z | z | z) <;> first | exact e1 (Tg.lf.inj z) | cases z) (by rintro (z | z | z) <;> first | exact e1 (Tg.lh.inj z) | cases z), (h.lgs x0 hx0).2⟩
    nd := by
      have e : (Y.setLg key r).lgs.map (·.1) = Y.lgs.map (·.1) := by
        show (Y.lgs.map _).map _ = _
        rw [List.map_map]
        refine List.map_congr_left fun x hx => ?_
        show (if x.1 = key then (key, r) else x).1 = x.1
        by_cases e : x.1 = key
        · rw [if_pos e, e]
        · rw [if_neg e]
      rw [e]
      exact h.nd
    hds := fun i x hx => (h.hds i x hx).kp k (by rintro (z | z | z) <;> cases z) (by rintro (z | z | z) <;> cases z)
    live := hl }
end Ry
namespace Ry
open PySem PySem.Spec PyProof.Rows L2 He RyH
open C8 (pss_cut tCut Cal Met Mak pe_c pe_mk pe_mt pe_mt0 pe_gc)
/-- a handler is changed -/
def mHd (i : Nat) : Tg → Prop := fun t => t = .hd i ∨ t = .hf i
theorem YardW.hdSet {K : PySem.W.Frag} {H H' : Hp} {tg : Addr → Option Tg} {Y : YD} {i : Nat} {h0 r : HdR} (h : YardW K H tg Y) (hi : Y.hds[i]? = some h0) (k : KpT tg (mHd i) H H') (hr : HdOk K H' tg Y.y i r) (ha : r.a = h0.a) (hl : ∀ b t, tg b = some t → ∃ o, H' b = some o ∧ okShape o) : YardW K H' tg { Y with hds := Y.hds.set i r } := by
  obtain ⟨dy, ey⟩ := h.yE
  obtain ⟨dl, el⟩ := h.lrE
  have kk : ∀ {b o t}, H b = some o → tg b = some t → ¬ mHd i t → H' b = some o := fun {b o t} e et n => k b o e fun u z => by rw [et] at z; cases z; exact n
  have o1 : ∀ t : Tg, t = .y ∨ t = .st ∨ t = .fr ∨ t = .no ∨ t = .nu ∨ t = .lm ∨ t = .mk ∨ t = .hn ∨ t = .fa ∨ t = .lr ∨ t = .lrf → ¬ mHd i t := fun t z => by
    rcases z with z | z | z | z | z | z | z | z | z | z | z <;> (subst z; rintro (z | z) <;> cases z)
  have hmk : (Y.hds.set i r).map (fun h => V.ref h.a) = Y.hds.map fun h => V.ref h.a := by
    rw [List.map_set, ha]
    refine List.ext_getElem? fun j => ?_
    rw [List.getElem?_set]
    by_cases e : i = j
    · subst e
      rw [if_pos rfl]
      have hlt : i < Y.hds.length := (List.getElem?_eq_some_iff.mp hi).1
      rw [if_pos (by rw [List.length_map]; exact hlt), List.getElem?_map, hi]
      rfl
    · rw [if_neg e]
  exact { h with
    yE := ⟨dy, kk ey h.ty (o1 _ (by simp))⟩, stE := kk h.stE h.tst (o1 _ (by simp)), frE := kk h.frE h.tfr (o1 _ (by simp)), noE := kk h.noE h.tno (o1 _ (by simp)), nuE := kk h.nuE h.tnu (o1 _ (by simp)), lmE := kk h.lmE h.tlm (o1 _ (by simp)),
    mkE := by
      show H' Y.made = some (.lst (((Y.hds.set i r).map fun h => V.ref h.a) ++ Y.mkx.map V.ref))
      rw [hmk]
      exact kk h.mkE h.tmk (o1 _ (by simp))
    hnE := kk h.hnE h.thn (o1 _ (by simp)), faE := kk h.faE h.tfa (o1 _ (by simp)), lrE := ⟨dl, kk el h.tlr (o1 _ (by simp))⟩, lrfE := kk h.lrfE h.tlf (o1 _ (by simp))
    root := ⟨h.root.1.kp k (by rintro (z | z) <;> cases z) (by rintro (z | z) <;> cases z) (by rintro (z | z) <;> cases z), h.root.2⟩
    lgs := fun x hx => ⟨(h.lgs x hx).1.kp k (by rintro (z | z) <;> cases z) (by rintro (z | z) <;> cases z) (by rintro (z | z) <;> cases z), (h.lgs x hx).2⟩
    hds := fun j x hx => by
      have hx' : (Y.hds.set i r)[j]? = some x := hx
      rw [List.getElem?_set] at hx'
      by_cases e : i = j
      · subst e
        rw [if_pos rfl] at hx'
        split at hx'
        · cases hx'
          exact hr
        · cases hx'
      · rw [if_neg e] at hx'
        exact (h.hds j x hx').kp k (by rintro (z | z) <;> first | exact e (Tg.hd.inj z).symm | cases z) (by rintro (z | z) <;> first | exact e (Tg.hf.inj z).symm | cases z)
    live := hl }
end Ry
namespace Ry
open PySem PySem.Spec PyProof.Rows L2 He RyH
open C8 (pss_cut tCut Cal Met Mak pe_c pe_mk pe_mt pe_mt0 pe_gc)
/-- a handler is new -/
theorem YardW.hdAdd {K : PySem.W.Frag} {H H' : Hp} {tg tg' : Addr → Option Tg} {Y : YD} {r : HdR} (h : YardW K H tg Y) (hx : Y.mkx = []) (a : Ag H tg tg') (k : KpT tg (fun t => t = .mk) H H') (hmk : H' Y.made = some (.lst ((Y.hds.map fun h => V.ref h.a) ++ [.ref r.a]))) (hr : HdOk K H' tg' Y.y Y.hds.length r)
    (hl : ∀ b t, tg' b = some t → ∃ o, H' b = some o ∧ okShape o) : YardW K H' tg' { Y with hds := Y.hds ++ [r] } := by
  obtain ⟨dy, ey⟩ := h.yE
  obtain ⟨dl, el⟩ := h.lrE
  have kk : ∀ {b o t}, H b = some o → tg b = some t → t ≠ .mk → H' b = some o := fun {b o t} e et n => k b o e fun u z => by rw [et] at z; cases z; exact n
  have a' : Ag H' tg tg' → True := fun _ => True.intro
  have kt : KpT tg' (fun t => t = .mk) H H' := fun b o e n => k b o e fun t z => n t ((a b o e).trans z)
  refine ⟨(a _ _ ey).trans h.ty, (a _ _ h.stE).trans h.tst, (a _ _ h.frE).trans h.tfr, (a _ _ h.noE).trans h.tno, (a _ _ h.nuE).trans h.tnu, (a _ _ h.lmE).trans h.tlm, (a _ _ h.mkE).trans h.tmk, (a _ _ h.hnE).trans h.thn, (a _ _ h.faE).trans h.tfa, (a _ _ el).trans h.tlr, (a _ _ h.lrfE).trans h.tlf,
    ⟨dy, kk ey h.ty (fun z => nomatch z)⟩, kk h.stE h.tst (fun z => nomatch z), kk h.frE h.tfr (fun z => nomatch z), kk h.noE h.tno (fun z => nomatch z), kk h.nuE h.tnu (fun z => nomatch z), kk h.lmE h.tlm (fun z => nomatch z), ?_, kk h.hnE h.thn (fun z => nomatch z), kk h.faE h.tfa (fun z => nomatch z), ⟨dl, kk el h.tlr (fun z => nomatch z)⟩, kk h.lrfE h.tlf (fun z => nomatch z),
    ⟨(h.root.1.ag a).kp kt (fun z => nomatch z) (fun z => nomatch z) (fun z => nomatch z), h.root.2⟩, fun x hx => ⟨((h.lgs x hx).1.ag a).kp kt (fun z => nomatch z) (fun z => nomatch z) (fun z => nomatch z), (h.lgs x hx).2⟩, h.nd, fun j x hx => ?_, hl⟩
  · show H' Y.made = some (.lst (((Y.hds ++ [r]).map fun h => V.ref h.a) ++ Y.mkx.map V.ref))
    rw [hmk, List.map_append, hx, List.map_nil, List.append_nil]
    rfl
  · have hx' : (Y.hds ++ [r])[j]? = some x := hx
    rcases Nat.lt_or_ge j Y.hds.length with z | z
    · rw [List.getElem?_append_left z] at hx'
      exact ((h.hds j x hx').ag a).kp kt (fun z => nomatch z) (fun z => nomatch z)
    · rw [List.getElem?_append_right z] at hx'
      have e : j - Y.hds.length = 0 := by
        cases q : j - Y.hds.length with
        | zero => rfl
        | succ m => rw [q] at hx'; cases hx'
      rw [e] at hx'
      cases hx'
      rw [show j = Y.hds.length by omega]
      exact hr
end Ry
namespace Ry
open PySem PySem.Spec PyProof.Rows L2 He RyH
open C8 (pss_cut tCut Cal Met Mak pe_c pe_mk pe_mt pe_mt0 pe_gc)
/-! ### a new handler of a yard -/
def FlR.nm : FlR → Option Str
  | .fil _ x => some x
  | .fn _ => none
def fmtOf : Option (Addr × Addr × Bool × List FP) → Option (Bool × List FP)
  | none => none
  | some x => some (x.2.2.1, x.2.2.2)
/-- the handler is the plan's -/
structure HdFit (r : HdR) (h : HP) : Prop where
  level : r.level = h.level
  term : r.term = h.term
  name : r.name = none
  closed : r.closed = false
  st : r.st = if h.null = true then none else some h.stream
  fs : r.fs.map FlR.nm = h.filters.map some
  fmt : fmtOf r.fmt = h.fmt.map fun ps => (h.style, ps)
structure HNew (K : PySem.W.Frag) (H0 : Hp) (tg : Addr → Option Tg) (Y : YD) (H : Hp) (tg' : Addr → Option Tg) (r : HdR) : Prop where
  yw : YardW K H tg' { Y with hds := Y.hds ++ [r] }
  ag : Ag H0 tg tg'
  kp : KpT tg (fun t => t = .mk) H0 H
  fa : H0 r.a = none
  ff : H0 r.fl = none
theorem get_last {α : Type} (xs : List α) (x : α) : (xs ++ [x])[xs.length]? = some x := by simp
theorem set_last {α : Type} (xs : List α) (x y : α) : (xs ++ [x]).set xs.length y = xs ++ [y] := by simp
theorem HNew.hd {K : PySem.W.Frag} {H0 H : Hp} {tg tg' : Addr → Option Tg} {Y : YD} {r : HdR} (h : HNew K H0 tg Y H tg' r) : HdOk K H tg' Y.y Y.hds.length r := h.yw.hds _ _ (get_last Y.hds r)
theorem HdOk.live {K : PySem.W.Frag} {H H' : Hp} {tg : Addr → Option Tg} {y : Addr} {i : Nat} {r : HdR} (x : HdOk K H' tg y i r) (k : Kp (fun b => b = r.a ∨ b = r.fl) H H') (hl : ∀ b t, tg b = some t → ∃ o, H b = some o ∧ okShape o) : ∀ b t, tg b = some t → ∃ o, H' b = some o ∧ okShape o := fun b t e => by
  by_cases e1 : b = r.a
  · obtain ⟨dx, q⟩ := x.aE
    exact ⟨_, by rw [e1]; exact q, by show 7 ≤ (hdFs y r).length; unfold hdFs; rw [List.length_append]; show 7 ≤ 7 + _; omega⟩
  · by_cases e2 : b = r.fl
    · exact ⟨.lst _, by rw [e2]; exact x.flE, True.intro⟩
    · obtain ⟨o, q, s⟩ := hl b t e
      exact ⟨o, k _ _ q fun z => by rcases z with z | z <;> first | exact e1 z | exact e2 z, s⟩
theorem HNew.set {K : PySem.W.Frag} {H0 H H' : Hp} {tg tg' : Addr → Option Tg} {Y : YD} {r r' : HdR} (h : HNew K H0 tg Y H tg' r) (hr : HdOk K H' tg' Y.y Y.hds.length r') (ha : r'.a = r.a) (hf : r'.fl = r.fl) (k : Kp (fun b => b = r.a ∨ b = r.fl) H H') : HNew K H0 tg Y H' tg' r' := by
  have h0 := h.hd
  have kt : KpT tg' (mHd Y.hds.length) H H' := fun b o e n => k b o e fun z => by
    rcases z with z | z
    · exact n _ (by rw [z]; exact h0.ta) (.inl rfl)
    · exact n _ (by rw [z]; exact h0.tf) (.inr rfl)
  have yw := YardW.hdSet h.yw (get_last Y.hds r) kt hr ha (HdOk.live hr (by rw [ha, hf]; exact k) h.yw.live)
  have e : ({ Y with hds := Y.hds ++ [r] } : YD).hds.set Y.hds.length r' = Y.hds ++ [r'] := set_last Y.hds r r'
  rw [e] at yw
  refine ⟨yw, h.ag, fun b o e n => k _ _ (h.kp b o e n) fun z => ?_, (by rw [ha]; exact h.fa), (by rw [hf]; exact h.ff)⟩
  rcases z with z | z
  · rw [z, h.fa] at e
    cases e
  · rw [z, h.ff] at e
    cases e
/-- what is new is put beside -/
theorem HNew.same {K : PySem.W.Frag} {H0 H H' : Hp} {tg tg' : Addr → Option Tg} {Y : YD} {r : HdR} (h : HNew K H0 tg Y H tg' r) (k : Same H H') : HNew K H0 tg Y H' tg' r := ⟨h.yw.same k, h.ag, fun b o e n => k _ _ (h.kp b o e n), h.fa, h.ff⟩
/-- a field of the handler is set -/
theorem HdOk.setA {K : PySem.W.Frag} {H : Hp} {tg : Addr → Option Tg} {y : Addr} {i : Nat} {r r' : HdR} {dx : Addr} (x : HdOk K H tg y i r) (ha : r'.a = r.a) (hf : r'.fl = r.fl) (hs : r'.fs = r.fs)
    (hm : ∀ a dd b ps, r'.fmt = some (a, dd, b, ps) → FmT K H tg a b ps dd) : HdOk K (L2.upd H r.a (.ins (ga K (if r'.st.isSome then "StreamHandler" else "NullHandler")) dx (hdFs y r'))) tg y i r' := by
  obtain ⟨d0, e0⟩ := x.aE
  have kt : ∀ o, KpT tg (mHd i) H (L2.upd H r.a o) := fun o => KpT.at x.ta (.inl rfl)
  refine ⟨by rw [ha]; exact x.ta, by rw [hf]; exact x.tf, ⟨dx, by rw [ha, upd_same]⟩, ?_, fun f hfm => (x.fs f (by rw [← hs]; exact hfm)).kp (kt _), fun a dd b ps e => (hm a dd b ps e).kp (kt _)⟩
  rw [hf, hs, upd_ne (ne_of x.flE e0 fun z => nomatch z)]
  exact x.flE
theorem hdFs_level (y : Addr) (h : HdR) (i : Int) : putF "level" (.int i) (hdFs y h) = hdFs y { h with level := i } := by
  obtain ⟨a, fl, st, lv, tm, fm, nm, cl, fs⟩ := h
  cases st <;> kernel_rfl
theorem hdFs_term (y : Addr) (h : HdR) (z : Str) : putF "terminator" (.str z) (hdFs y h) = hdFs y { h with term := z } := by
  obtain ⟨a, fl, st, lv, tm, fm, nm, cl, fs⟩ := h
  cases st <;> kernel_rfl
theorem hdFs_fmt (y : Addr) (h : HdR) (x : Addr × Addr × Bool × List FP) : putF "formatter" (.ref x.1) (hdFs y h) = hdFs y { h with fmt := some x } := by
  obtain ⟨a, fl, st, lv, tm, fm, nm, cl, fs⟩ := h
  cases st <;> kernel_rfl
theorem hdFs_len (y : Addr) (h : HdR) : (hdFs y h).length < 1000 := by
  obtain ⟨a, fl, st, lv, tm, fm, nm, cl, fs⟩ := h
  cases st <;> exact csz rfl
theorem hdFs_lk (y : Addr) (h : HdR) : lk (hdFs y h) "filters" = some (.ref h.fl) ∧ lk (hdFs y h) "yard" = some (.ref y) ∧ lk (hdFs y h) "setLevel" = none ∧ lk (hdFs y h) "setTerminator" = none ∧ lk (hdFs y h) "addFilter" = none ∧ lk (hdFs y h) "setFormatter" = none := by
  obtain ⟨a, fl, st, lv, tm, fm, nm, cl, fs⟩ := h
  cases st <;> exact ⟨by kernel_rfl, by kernel_rfl, by kernel_rfl, by kernel_rfl, by kernel_rfl, by kernel_rfl⟩
/-- classes of handlers -/
def HC (K : PySem.W.Frag) (C : Addr) : Prop := C = ga K "StreamHandler" ∨ C = ga K "NullHandler"
theorem pe_any {X : Cx} {e : Expr} {ι : Type} {D : ι → Prop} {t : ι → TE} (h : ∀ i, D i → PE X e (t i)) : PE X e (fun σ H Q => ∃ i, D i ∧ t i σ H Q) := ⟨fun pins s σ H Q I ⟨i, d, q⟩ => (h i d).run pins s σ H Q I q⟩
theorem hc_of (K : PySem.W.Frag) (st : Option Str) : HC K (ga K (if st.isSome then "StreamHandler" else "NullHandler")) := by
  cases st
  · exact .inr rfl
  · exact .inl rfl
theorem KpT.kp {tg : Addr → Option Tg} {M : Tg → Prop} {H H' : Hp} (k : KpT tg M H H') : Kp (fun b => ∃ t, tg b = some t) H H' := fun b o e n => k b o e fun t z _ => n ⟨t, z⟩
section
variable {P : Program} {w : World} {K : PySem.W.Frag} {mg : Str → Option Value} {base : Heap}
theorem HC.hcls (T : Txt w K mg) {C : Addr} (h : HC K C) : HCls K C := by
  rcases h with rfl | rfl
  · exact hc_StreamHandler T
  · exact hc_NullHandler T
theorem HC.cmp (T : Txt w K mg) {C : Addr} (h : HC K C) : CmpC K C := by
  rcases h with rfl | rfl
  · exact T.cc_StreamHandler
  · exact T.cc_NullHandler
theorem met_H_setLevel (T : Txt w K mg) : ∀ C, HC K C → Met P w K mg base 3 C "setLevel" (spSetLevel K) [] := fun C h => by
  rcases h with rfl | rfl
  · exact met_StreamHandler_setLevel T
  · exact met_NullHandler_setLevel T
theorem met_H_setFormatter (T : Txt w K mg) : ∀ C, HC K C → Met P w K mg base 1 C "setFormatter" (spSetF K "formatter") [] := fun C h => by
  rcases h with rfl | rfl
  · exact met_StreamHandler_setFormatter T
  · exact met_NullHandler_setFormatter T
theorem met_H_setTerminator (T : Txt w K mg) : ∀ C, HC K C → Met P w K mg base 1 C "setTerminator" (spSetF K "terminator") [] := fun C h => by
  rcases h with rfl | rfl
  · exact met_StreamHandler_setTerminator T
  · exact met_NullHandler_setTerminator T
theorem met_H_addFilter (T : Txt w K mg) : ∀ C, HC K C → Met P w K mg base 1 C "addFilter" (spAddFilter K) [] := fun C h => by
  rcases h with rfl | rfl
  · exact met_StreamHandler_addFilter T
  · exact met_NullHandler_addFilter T
theorem FlOk.cmp (T : Txt w K mg) {H : Hp} {tg : Addr → Option Tg} {f : FlR} (h : FlOk K H tg f) : RyR.CmpV K H f.addr := by
  cases f with
  | fil a x =>
    obtain ⟨_, dx, e⟩ := h
    exact .inl ⟨_, dx, _, e, T.cc_Filter⟩
  | fn a => exact .inr h.2
theorem FlOk.live {H : Hp} {tg : Addr → Option Tg} {f : FlR} (h : FlOk K H tg f) : H f.addr ≠ none := by
  cases f with
  | fil a x =>
    obtain ⟨_, dx, e⟩ := h
    show H a ≠ none
    rw [e]
    exact fun z => nomatch z
  | fn a =>
    show H a ≠ none
    rw [h.2]
    exact fun z => nomatch z
end
end Ry
namespace Ry
open PySem PySem.Spec PyProof.Rows L2 He RyH
open C8 (pss_cut tCut Cal Met Mak pe_c pe_mk pe_mt pe_mt0 pe_gc)
/-! ### a handler is made of its plan: the first state -/
theorem HNew.make {K : PySem.W.Frag} {H H' : Hp} {tg : Addr → Option Tg} {Y : YD} {C x dx fl : Addr} (st : Option Str) (h : YardW K H tg Y) (hmx : Y.mkx = []) (hx : H x = none) (hdx : H dx = none) (hfl : L2.upd (L2.upd H dx (.own x)) x (.ins C dx []) fl = none)
    (hC : C = ga K (if st.isSome then "StreamHandler" else "NullHandler")) (e1 : H' x = some (.ins C dx (hdFs Y.y ⟨x, fl, st, 0, "\n", none, none, false, []⟩))) (e2 : H' fl = some (.lst []))
    (e3 : H' Y.made = some (.lst ((Y.hds.map fun h => V.ref h.a) ++ [.ref x]))) (kk : Kp (fun b => b = x ∨ b = Y.made) (L2.upd (L2.upd H dx (.own x)) x (.ins C dx [])) H') :
    HNew K H tg Y H' (tgU (tgU tg x (.hd Y.hds.length)) fl (.hf Y.hds.length)) ⟨x, fl, st, 0, "\n", none, none, false, []⟩ := by
  have hfH : H fl = none := was_none (was_none hfl)
  have hfx : fl ≠ x := fun z => by rw [z, upd_same] at hfl; cases hfl
  have ag : Ag H tg (tgU (tgU tg x (.hd Y.hds.length)) fl (.hf Y.hds.length)) := (Ag.refl.new hx).new hfH
  have kp : KpT tg (fun t => t = .mk) H H' := fun b o e n => by
    refine kk b o ?_ ?_
    · rw [upd_ne (ne_of_none e hx), upd_ne (ne_of_none e hdx)]
      exact e
    · rintro (z | z)
      · exact ne_of_none e hx z
      · exact n .mk (by rw [z]; exact h.tmk) rfl
  have ok : HdOk K H' (tgU (tgU tg x (.hd Y.hds.length)) fl (.hf Y.hds.length)) Y.y Y.hds.length ⟨x, fl, st, 0, "\n", none, none, false, []⟩ := by
    refine ⟨?_, tgU_same, ⟨dx, by rw [← hC]; exact e1⟩, e2, (fun f hf => nomatch hf), (fun _ _ _ _ z => nomatch z)⟩
    show tgU (tgU tg x _) fl _ x = _
    rw [tgU_ne hfx.symm, tgU_same]
  refine ⟨h.hdAdd hmx ag kp e3 ok fun b t e => ?_, ag, kp, hx, hfH⟩
  by_cases b1 : b = fl
  · exact ⟨.lst _, by rw [b1]; exact e2, True.intro⟩
  rw [tgU_ne b1] at e
  by_cases b2 : b = x
  · refine ⟨_, by rw [b2]; exact e1, ?_⟩
    show 7 ≤ (hdFs _ _).length
    unfold hdFs
    rw [List.length_append]
    show 7 ≤ 7 + _
    omega
  rw [tgU_ne b2] at e
  by_cases b3 : b = Y.made
  · exact ⟨.lst _, by rw [b3]; exact e3, True.intro⟩
  obtain ⟨o, q, s⟩ := h.live b t e
  refine ⟨o, kk b o ?_ fun z => by rcases z with z | z <;> first | exact b2 z | exact b3 z, s⟩
  rw [upd_ne b2, upd_ne (ne_of_none q hdx)]
  exact q
/-- a field is set -/
theorem HNew.fld {K : PySem.W.Frag} {H0 H : Hp} {tg tg' : Addr → Option Tg} {Y : YD} {r r' : HdR} {dx : Addr} (h : HNew K H0 tg Y H tg' r) (ha : r'.a = r.a) (hf : r'.fl = r.fl) (hs : r'.fs = r.fs)
    (hm : ∀ a dd b ps, r'.fmt = some (a, dd, b, ps) → FmT K H tg' a b ps dd) : HNew K H0 tg Y (L2.upd H r.a (.ins (ga K (if r'.st.isSome then "StreamHandler" else "NullHandler")) dx (hdFs Y.y r'))) tg' r' :=
  h.set (h.hd.setA ha hf hs hm) ha hf (Kp.at (.inl rfl))
theorem HdOk.addF {K : PySem.W.Frag} {H : Hp} {tg : Addr → Option Tg} {y : Addr} {i : Nat} {r : HdR} (x : HdOk K H tg y i r) {f : FlR} (hf : FlOk K H tg f) : HdOk K (L2.upd H r.fl (.lst (((r.fs.map FlR.addr) ++ [f.addr]).map V.ref))) tg y i { r with fs := r.fs ++ [f] } := by
  obtain ⟨dx, e⟩ := x.aE
  have kt : ∀ o, KpT tg (mHd i) H (L2.upd H r.fl o) := fun o => KpT.at x.tf (.inr rfl)
  refine ⟨x.ta, x.tf, ⟨dx, ?_⟩, ?_, fun g hg => ?_, fun a dd b ps e => (x.fm a dd b ps e).kp (kt _)⟩
  · rw [upd_ne (ne_of e x.flE fun z => nomatch z)]
    exact e
  · show L2.upd H r.fl _ r.fl = some (.lst (((r.fs ++ [f]).map FlR.addr).map V.ref))
    rw [upd_same, List.map_append (f := FlR.addr)]
    rfl
  · rcases List.mem_append.mp (show g ∈ r.fs ++ [f] from hg) with z | z
    · exact (x.fs g z).kp (kt _)
    · rw [List.mem_singleton.mp z]
      exact hf.kp (kt _)
theorem HNew.addF {K : PySem.W.Frag} {H0 H : Hp} {tg tg' : Addr → Option Tg} {Y : YD} {r : HdR} (h : HNew K H0 tg Y H tg' r) {f : FlR} (hf : FlOk K H tg' f) : HNew K H0 tg Y (L2.upd H r.fl (.lst (((r.fs.map FlR.addr) ++ [f.addr]).map V.ref))) tg' { r with fs := r.fs ++ [f] } :=
  h.set (h.hd.addF hf) rfl rfl (Kp.at (.inr rfl))
theorem YardW.untag {K : PySem.W.Frag} {H : Hp} {tg : Addr → Option Tg} {Y : YD} (h : YardW K H tg Y) {x : Addr} (hx : H x = none) : tg x = none := by
  cases q : tg x with
  | none => rfl
  | some t =>
    obtain ⟨o, e, _⟩ := h.live x t q
    rw [hx] at e
    cases e
theorem HNew.tr {K : PySem.W.Frag} {H0 H : Hp} {tg tg' : Addr → Option Tg} {Y : YD} {r : HdR} (h : HNew K H0 tg Y H tg' r) {b : Addr} {o : HO} (nb : tg b = none) (e : H0 b = some o) : H b = some o := h.kp _ _ e fun t z => by rw [nb] at z; cases z
theorem vh_null (h : HP) (fl : Addr) (fv : V) : valV (hpK h fl fv) (kS "null") = some (.bl h.null) := by kernel_rfl
theorem vh_stream (h : HP) (fl : Addr) (fv : V) : valV (hpK h fl fv) (kS "stream") = some (.str h.stream) := by kernel_rfl
theorem vh_level (h : HP) (fl : Addr) (fv : V) : valV (hpK h fl fv) (kS "level") = some (.int h.level) := by kernel_rfl
theorem vh_end (h : HP) (fl : Addr) (fv : V) : valV (hpK h fl fv) (kS "end") = some (.str h.term) := by kernel_rfl
theorem vh_filters (h : HP) (fl : Addr) (fv : V) : valV (hpK h fl fv) (kS "filters") = some (.ref fl) := by kernel_rfl
theorem vh_format (h : HP) (fl : Addr) (fv : V) : valV (hpK h fl fv) (kS "format") = some fv := by kernel_rfl
theorem vh_style (h : HP) (fl : Addr) (fv : V) : valV (hpK h fl fv) (kS "style") = some (.str (styleOf h.style)) := by kernel_rfl
theorem vh_called (h : HP) (fl : Addr) (fv : V) : valV (hpK h fl fv) (kS "called") = some (calV h.called) := by kernel_rfl
theorem dget {H : Hp} {p : Addr} {kvs : List (Key × V)} {k : Str} {v : V} (e : H p = some (.dK kvs)) (q : valV kvs (kS k) = some v) : DGet H p (.str k) (some v) := by
  rw [← q]
  exact DGet.k (k := kS k) e
theorem yd_lk (ck : Int) (st fr no nu : Addr) (bar : Int) (lm mk hn fa rt lr : Addr) : lk (ydF ck st fr no nu bar lm mk hn fa rt lr) "level_of" = none ∧ lk (ydF ck st fr no nu bar lm mk hn fa rt lr) "made" = some (.ref mk) ∧ lk (ydF ck st fr no nu bar lm mk hn fa rt lr) "enrol" = none ∧
    lk (ydF ck st fr no nu bar lm mk hn fa rt lr) "names_of" = some (.ref no) ∧ lk (ydF ck st fr no nu bar lm mk hn fa rt lr) "numbers_of" = some (.ref nu) ∧ lk (ydF ck st fr no nu bar lm mk hn fa rt lr) "logger_map" = some (.ref lm) ∧ lk (ydF ck st fr no nu bar lm mk hn fa rt lr) "root" = some (.ref rt) ∧
    lk (ydF ck st fr no nu bar lm mk hn fa rt lr) "bar_level" = some (.int bar) := ⟨by kernel_rfl, by kernel_rfl, by kernel_rfl, by kernel_rfl, by kernel_rfl, by kernel_rfl, by kernel_rfl, by kernel_rfl⟩
def spHandler (K : PySem.W.Frag) : Sp := fun vs H Q _ => ∃ (p : Addr) (h : HP) (N : Addr → Prop) (tg : Addr → Option Tg) (Y : YD), vs = [.ref Y.y, .ref p] ∧ YardW K H tg Y ∧ HPlanAt N H p h ∧ (∀ b, N b → tg b = none) ∧ HPok h ∧ h.called = none ∧ Y.hds.length < 100 ∧ Y.mkx = [] ∧
  ∀ r tg' H', HdFit r h → HNew K H tg Y H' tg' r → Q (.ref r.a) H'
section
variable {P : Program} {w : World} {K : PySem.W.Frag} {mg : Str → Option Value} {base : Heap}
theorem sc_law_handler : FnScope ["_law_yard_here", "_law_plan_here", "_law_found", "_law_name", "_law_text"] ["_law_yard_here", "_law_plan_here"] (defScope s_law_handler) := ⟨rfl, rfl, rfl, by decide +kernel, rfl, by decide +kernel, by decide +kernel⟩
theorem cal_law_handler (T : Txt w K mg) : Cal P w K mg base 7 "_law_handler" (spHandler K) [] := by
  obtain ⟨fd, F⟩ := T.df_law_handler
  have c_mk_NullHandler := mk_NullHandler (P := P) (base := base) T
  have c_mk_StreamHandler := mk_StreamHandler (P := P) (base := base) T
  have c_H_setLevel := met_H_setLevel (P := P) (base := base) T
  have c_H_setTerminator := met_H_setTerminator (P := P) (base := base) T
  have c_H_addFilter := met_H_addFilter (P := P) (base := base) T
  have c_mk_Filter := mk_Filter (P := P) (base := base) T
  have c_law_format_text := cal_law_format_text (P := P) (base := base) T
  have c_H_setFormatter := met_H_setFormatter (P := P) (base := base) T
  have c_mk_Formatter := mk_Formatter (P := P) (base := base) T
  have c_law_has_field := cal_law_has_field (P := P) (base := base) T
  refine ⟨_, fd, ["_law_yard_here", "_law_plan_here"], [], F.ok sc_law_handler (fun vs H Q E h => ?_) (fun cdv A outer s H vs Q E hr h => ?_), T.m_law_handler, F.kp, F.bindsN (fun _ _ _ _ _ _ us hl => match us, hl with | [_, _], _ => rfl), .nil⟩
  · obtain ⟨_, _, _, _, _, rfl, _⟩ := h
    rfl
  · obtain ⟨p, h, N, tg, Y, rfl, hY, hP, hN, hok, hcal, hlen, hmx, k⟩ := h
    refine ⟨_, PSs.nox (pss_cut (ps_if (pt_val (pe_dget (hu_of hr) (pv 1) pe_str (fun _ _ => rfl)))
        (pss_one (ps_set (i := 2) sc_law_handler.nd rfl (Or.inl rfl) (pe_mk c_mk_NullHandler hr (by decide) (by rfl) (pa_cons (pv 0) pa_nil))))
        (pss_one (ps_set (i := 2) sc_law_handler.nd rfl (Or.inl rfl) (pe_mk c_mk_StreamHandler hr (by decide) (by rfl) (pa_cons (pv 0) (pa_cons (pe_dget (hu_of hr) (pv 1) pe_str (fun _ _ => rfl)) pa_nil))))))
      (pss_cons (ps_expr (pe_any fun C hC => pe_mt (c_H_setLevel C hC) hr (by decide) (pv 2) (pa_cons (pe_dget (hu_of hr) (pv 1) pe_str (fun _ _ => rfl)) pa_nil)))
      (pss_cons (ps_expr (pe_any fun C hC => pe_mt (c_H_setTerminator C hC) hr (by decide) (pv 2) (pa_cons (pe_dget (hu_of hr) (pv 1) pe_str (fun _ _ => rfl)) pa_nil)))
      (pss_cons (ps_for PassesOwn.never rfl (pi_list (pe_dget (hu_of hr) (pv 1) pe_str (fun _ _ => rfl))) (pg_name (i := 3) sc_law_handler.nd rfl (Or.inl rfl))
        (pss_one (ps_expr (pe_any fun C hC => pe_mt (c_H_addFilter C hC) hr (by decide) (pv 2) (pa_cons (pe_mk c_mk_Filter hr (by decide) (by rfl) (pa_cons (pv 3) pa_nil)) pa_nil)))))
      (pss_cut (ps_if (pt_cmpR op_notN (pe_dget (hu_of hr) (pv 1) pe_str (fun _ _ => rfl)) pe_non (nomark _))
        (pss_cons (ps_set (i := 4) sc_law_handler.nd rfl (Or.inl rfl) (pe_c c_law_format_text hr (by decide) (by rfl) (pa_cons (pe_dget (hu_of hr) (pv 1) pe_str (fun _ _ => rfl)) (pa_cons (pe_dget (hu_of hr) (pv 1) pe_str (fun _ _ => rfl)) pa_nil))))
        (pss_one (ps_expr (pe_any fun C hC => pe_mt (c_H_setFormatter C hC) hr (by decide) (pv 2) (pa_cons (pe_mk c_mk_Formatter hr (by decide) (by rfl) (pa_cons (pv 4) (pa_cons (pe_dget (hu_of hr) (pv 1) pe_str (fun _ _ => rfl)) (pa_cons (pe_c c_law_has_field hr (by decide) (by rfl) (pa_cons (pe_dget (hu_of hr) (pv 1) pe_str (fun _ _ => rfl)) pa_nil)) pa_nil)))) pa_nil)))))
        pss_nil)
      (pss_cut (ps_if (pt_cmpR op_notN (pe_dget (hu_of hr) (pv 1) pe_str (fun _ _ => rfl)) pe_non (nomark _))
        (pss_one ps_never)
        pss_nil)
      (pss_one (ps_ret (pv 2))))))))), ?_⟩
    obtain ⟨fl0, fv, np, ep, nf, ef, hfv⟩ := hP
    have hcalV : calV h.called = .non := by rw [hcal]; rfl
    obtain ⟨dy, ey⟩ := hY.yE
    have hmkE : H Y.made = some (.lst (Y.hds.map fun h => V.ref h.a)) := by
      have z := hY.mkE
      rw [hmx, List.map_nil, List.append_nil] at z
      exact z
    have hpx := dget ep (vh_null h fl0 fv)
    refine ⟨fun σ' H' => ∃ x fl tg', σ' = [some (.ref Y.y), some (.ref p), some (.ref x), none, none] ∧ HNew K H tg Y H' tg' ⟨x, fl, if h.null = true then none else some h.stream, 0, "\n", none, none, false, []⟩, ?_, ?_⟩
    · refine ⟨_, rfl, p, _, rfl, hpx, _, rfl, ?_⟩
      cases en : h.null with
      | true =>
        refine iteT ?_
        refine ⟨_, rfl, fun x dx hx hdx hne => ?_⟩
        have hyx : Y.y ≠ x := ne_of_none ey hx
        have eyH : L2.upd (L2.upd H dx (.own x)) x (.ins (ga K "NullHandler") dx []) Y.y = some (.ins (ga K "Yard") dy (ydF 0 Y.st Y.fr Y.no Y.nu Y.bar Y.lm Y.made Y.hn Y.fa Y.root.a Y.lr)) := by rw [upd_ne hyx, upd_ne (ne_of_none ey hdx)]; exact ey
        refine ⟨x, _, dx, Y.y, Y.made, _, _, rfl, upd_same, hc_NullHandler T, ⟨dy, eyH⟩, (yd_lk ..).2.1, (yd_lk ..).2.2.1, hyx, by rw [upd_ne (ne_of_none hmkE hx), upd_ne (ne_of_none hmkE hdx)]; exact hmkE, by rw [List.length_map]; omega, fun fl H' hfl e1 e2 e3 kk => ?_⟩
        exact ⟨rfl, x, fl, _, rfl, HNew.make none hY hmx hx hdx hfl rfl e1 e2 e3 kk⟩
      | false =>
        refine iteF ?_
        refine ⟨_, rfl, _, rfl, p, _, rfl, dget ep (vh_stream h fl0 fv), fun x dx hx hdx hne => ?_⟩
        have hyx : Y.y ≠ x := ne_of_none ey hx
        have eyH : L2.upd (L2.upd H dx (.own x)) x (.ins (ga K "StreamHandler") dx []) Y.y = some (.ins (ga K "Yard") dy (ydF 0 Y.st Y.fr Y.no Y.nu Y.bar Y.lm Y.made Y.hn Y.fa Y.root.a Y.lr)) := by rw [upd_ne hyx, upd_ne (ne_of_none ey hdx)]; exact ey
        refine ⟨x, dx, Y.y, Y.made, _, _, h.stream, rfl, upd_same, ⟨dy, eyH⟩, (yd_lk ..).2.1, (yd_lk ..).2.2.1, hyx, by rw [upd_ne (ne_of_none hmkE hx), upd_ne (ne_of_none hmkE hdx)]; exact hmkE, by rw [List.length_map]; omega, fun fl H' hfl e1 e2 e3 kk => ?_⟩
        exact ⟨rfl, x, fl, _, rfl, HNew.make (some h.stream) hY hmx hx hdx hfl rfl e1 e2 e3 kk⟩
    rintro σ1 H1 ⟨x, fl, tg', rfl, h1⟩
    have hst : (if h.null = true then none else some h.stream) = (if h.null = true then none else some h.stream) := rfl
    generalize hse : (if h.null = true then none else some h.stream) = st at h1 ⊢
    have yins : ∀ {H' : Hp} {tg' : Addr → Option Tg} {r : HdR}, HNew K H tg Y H' tg' r → ∃ dy, H' Y.y = some (.ins (ga K "Yard") dy (ydF 0 Y.st Y.fr Y.no Y.nu Y.bar Y.lm Y.made Y.hn Y.fa Y.root.a Y.lr)) := fun z => z.yw.yE
    -- setLevel
    obtain ⟨d1, a1⟩ := h1.hd.aE
    obtain ⟨dy1, ey1⟩ := yins h1
    refine ⟨_, hc_of K st, _, rfl, x, d1, _, rfl, a1, (hdFs_lk ..).2.2.1, _, rfl, p, _, rfl, dget (h1.tr (hN _ np) ep) (vh_level h fl0 fv), ?_⟩
    refine ⟨x, _, d1, Y.y, _, _, h.level, rfl, a1, (hc_of K st).hcls T |>.cl, ((hc_of K st).hcls T).yard, ((hc_of K st).hcls T).level, hdFs_len .., (hdFs_lk ..).2.1, ⟨dy1, ey1⟩, (yd_lk ..).1, ?_⟩
    rw [hdFs_level]
    have h2 := h1.fld (r' := ⟨x, fl, st, h.level, "
", none, none, false, []⟩) (dx := d1) rfl rfl rfl (fun _ _ _ _ z => nomatch z)
    generalize L2.upd H1 x _ = H2 at h2 ⊢
    -- setTerminator
    obtain ⟨d2, a2⟩ := h2.hd.aE
    refine ⟨_, hc_of K st, _, rfl, x, d2, _, rfl, a2, (hdFs_lk ..).2.2.2.1, _, rfl, p, _, rfl, dget (h2.tr (hN _ np) ep) (vh_end h fl0 fv), ?_⟩
    refine ⟨x, _, d2, _, .str h.term, rfl, a2, ((hc_of K st).hcls T).cl, ((hc_of K st).hcls T).terminator, hdFs_len .., ?_⟩
    rw [hdFs_term]
    have h3 := h2.fld (r' := ⟨x, fl, st, h.level, h.term, none, none, false, []⟩) (dx := d2) rfl rfl rfl (fun _ _ _ _ z => nomatch z)
    generalize L2.upd H2 x _ = H3 at h3 ⊢
    -- filters
    refine ⟨_, rfl, p, _, rfl, dget (h3.tr (hN _ np) ep) (vh_filters h fl0 fv), ?_⟩
    refine ⟨fl0, rfl, ⟨_, SqL.of (h3.tr (hN _ nf) ef)⟩, ?_⟩
    refine for_list (xs := h.filters.map V.str) (fun i σ' H' => ∃ o fs, σ' = [some (.ref Y.y), some (.ref p), some (.ref x), o, none] ∧ HNew K H tg Y H' tg' ⟨x, fl, st, h.level, h.term, none, none, false, fs⟩ ∧ fs.map FlR.nm = (h.filters.take i).map some) ⟨_, [], rfl, h3, rfl⟩ (fun i σ' H' _ ⟨_, _, _, z, _⟩ => SqL.of (z.tr (hN _ nf) ef)) ?_ ?_
    · rintro i v σ' H' hv ⟨o, fs, rfl, h4, hfs⟩
      rw [List.getElem?_map] at hv
      obtain ⟨nm, hnm, rfl⟩ := Option.map_eq_some_iff.mp hv
      obtain ⟨d4, a4⟩ := h4.hd.aE
      refine ⟨_, hc_of K st, _, rfl, x, d4, _, rfl, a4, (hdFs_lk ..).2.2.2.2.1, _, rfl, fun q dq hq hdq hne => ?_⟩
      refine ⟨q, dq, nm, rfl, upd_same, rfl, ?_⟩
      rw [upd_upd]
      have hq' : L2.upd H' dq (.own q) q = none := by rw [upd_ne hne.symm]; exact hq
      have s5 : Same H' (L2.upd (L2.upd H' dq (.own q)) q (.ins (ga K "Filter") dq ([("name", .str nm)] : List (Str × V)))) := Same.tr (Same.nw hdq) (Same.nw hq')
      have h5 := h4.same s5
      have f5 : FlOk K (L2.upd (L2.upd H' dq (.own q)) q (.ins (ga K "Filter") dq ([("name", .str nm)] : List (Str × V)))) tg' (.fil q nm) := ⟨h4.yw.untag hq, dq, upd_same⟩
      generalize L2.upd (L2.upd H' dq (.own q)) q (.ins (ga K "Filter") dq ([("name", .str nm)] : List (Str × V))) = H5 at h5 f5 s5 ⊢
      have hlt : fs.length = min i h.filters.length := by
        have z := congrArg List.length hfs
        rw [List.length_map, List.length_map, List.length_take] at z
        exact z
      have hfew := hok.few
      have hqn : q ∉ fs.map FlR.addr := fun z => by
        obtain ⟨g, hg, e⟩ := List.mem_map.mp z
        exact (h4.hd.fs g hg).live (by rw [e]; exact hq)
      refine ⟨x, _, d4, fl, q, _, fs.map FlR.addr, rfl, s5 _ _ a4, ((hc_of K st).hcls T).cl, ((hc_of K st).hcls T).filters, (hdFs_lk ..).1, h5.hd.flE, f5.cmp T, fun z hz => ?_, hqn, by rw [List.length_map]; omega, ?_⟩
      · obtain ⟨g, hg, rfl⟩ := List.mem_map.mp hz
        exact (h5.hd.fs g hg).cmp T
      · have z5 := h5.addF f5
        refine ⟨_, fs ++ [.fil q nm], rfl, (by exact z5), ?_⟩
        rw [take_nth hnm, List.map_append, List.map_append, hfs]
        rfl
    rintro σ' H4 ⟨o, fs, rfl, h4, hfs⟩
    rw [List.length_map, List.take_length] at hfs
    -- format
    refine ⟨fun σ' H' => ∃ o1 o2 fm, σ' = [some (.ref Y.y), some (.ref p), some (.ref x), o1, o2] ∧ HNew K H tg Y H' tg' ⟨x, fl, st, h.level, h.term, fm, none, false, fs⟩ ∧ fmtOf fm = h.fmt.map fun ps => (h.style, ps), ?_, ?_⟩
    · have e4 := h4.tr (hN _ np) ep
      have hfv4 : FmtV N H4 fv h.fmt := hfv.kp (M := fun b => ∃ t, tg b = some t) (N' := N) (h4.kp.kp) fun b hb => ⟨hb, fun ⟨t, z⟩ => by rw [hN b hb] at z; cases z⟩
      refine ⟨_, rfl, p, _, rfl, dget e4 (vh_format h fl0 fv), ?_⟩
      have hok' := hok.fmt
      generalize hfe : h.fmt = fo at hfv4 hok' ⊢
      cases fo with
      | none =>
        have hv : fv = .non := hfv4
        refine ⟨rfl, false, congrArg V.bl (by rw [hv]; rfl), iteF ?_⟩
        exact ⟨_, _, none, rfl, h4, rfl⟩
      | some ps =>
        obtain ⟨fa, ys, rfl, nfa, efa, hfa⟩ := hfv4
        obtain ⟨ho, hl6, _⟩ := hok'
        refine ⟨rfl, true, rfl, iteT ?_⟩
        refine ⟨_, rfl, p, _, rfl, dget e4 (vh_format h fl0 (.ref fa)), _, rfl, p, _, rfl, dget e4 (vh_style h fl0 (.ref fa)), ?_⟩
        refine ⟨fa, N, ys, ps, h.style, rfl, efa, hfa, ho, by omega, ?_⟩
        obtain ⟨d4, a4⟩ := h4.hd.aE
        refine ⟨_, hc_of K st, _, rfl, x, d4, _, rfl, a4, (hdFs_lk ..).2.2.2.2.2, _, rfl, _, rfl, p, _, rfl, dget e4 (vh_style h fl0 (.ref fa)), _, rfl, p, _, rfl, dget e4 (vh_format h fl0 (.ref fa)), ?_⟩
        refine ⟨fa, N, ys, ps, rfl, efa, hfa, by omega, fun H5 s5 q dq hq hdq hne => ?_⟩
        have h5 := h4.same s5
        have hq' : L2.upd H5 dq (.own q) q = none := by rw [upd_ne hne.symm]; exact hq
        refine ⟨q, dq, h.style, ps, rfl, upd_same, ho, by omega, fun dd H6 hdd hfm k6 => ⟨rfl, ?_⟩⟩
        have hdd5 : H5 dd = none := was_none (was_none hdd)
        have s6 : Same H5 H6 := fun b u e => k6 _ _ (by rw [upd_ne (ne_of_none e hq), upd_ne (ne_of_none e hdq)]; exact e) (ne_of_none e hq)
        have h6 := h5.same s6
        have hft := FmT.of (H0 := H) hfm (h5.yw.untag hq) (h5.yw.untag hdd5) h6.yw.live
        obtain ⟨d6, a6⟩ := h6.hd.aE
        refine ⟨x, _, d4, _, .ref q, rfl, s6 _ _ (s5 _ _ a4), ((hc_of K st).hcls T).cl, ((hc_of K st).hcls T).formatter, hdFs_len .., ?_⟩
        have hE := hdFs_fmt Y.y ⟨x, fl, st, h.level, h.term, none, none, false, fs⟩ (q, dd, h.style, ps)
        rw [show V.ref q = V.ref (q, dd, h.style, ps).1 from rfl, hE]
        refine ⟨_, _, some (q, dd, h.style, ps), rfl, h6.fld (r' := ⟨x, fl, st, h.level, h.term, some (q, dd, h.style, ps), none, false, fs⟩) (dx := d4) rfl rfl rfl (fun a' dd' b' ps' z => ?_), rfl⟩
        cases z
        exact hft
    rintro σ' H5 ⟨o1, o2, fm, rfl, h5, hfm⟩
    -- called
    refine ⟨fun σ' H' => σ' = [some (.ref Y.y), some (.ref p), some (.ref x), o1, o2] ∧ H5 = H', ?_, ?_⟩
    · refine ⟨_, rfl, p, _, rfl, dget (h5.tr (hN _ np) ep) (vh_called h fl0 fv), rfl, false, congrArg V.bl (by rw [hcalV]; rfl), iteF ?_⟩
      exact ⟨rfl, rfl⟩
    rintro σ' H6 ⟨rfl, rfl⟩
    refine ⟨_, rfl, k ⟨x, fl, st, h.level, h.term, fm, none, false, fs⟩ tg' _ ⟨rfl, rfl, rfl, rfl, hse.symm, hfs, hfm⟩ h5⟩
end
end Ry
namespace Ry
open PySem PySem.Spec PyProof.Rows L2 He RyH
open C8 (pss_cut tCut Cal Met Mak pe_c pe_mk pe_mt pe_mt0 pe_gc)
/-! ### what stands beside a yard -/
/-- G stands in H, none of it is tagged -/
def FrK (G H : Hp) (tg : Addr → Option Tg) : Prop := ∀ b o, G b = some o → H b = some o ∧ tg b = none
theorem FrK.kp {G H H' : Hp} {tg : Addr → Option Tg} {M : Tg → Prop} (f : FrK G H tg) (k : KpT tg M H H') : FrK G H' tg := fun b o e => ⟨k _ _ (f b o e).1 (fun t z => by rw [(f b o e).2] at z; cases z), (f b o e).2⟩
theorem FrK.ag {G H : Hp} {tg tg' : Addr → Option Tg} (f : FrK G H tg) (a : Ag H tg tg') : FrK G H tg' := fun b o e => ⟨(f b o e).1, (a _ _ (f b o e).1).trans (f b o e).2⟩
theorem FrK.same {G H H' : Hp} {tg : Addr → Option Tg} (f : FrK G H tg) (k : Same H H') : FrK G H' tg := fun b o e => ⟨k _ _ (f b o e).1, (f b o e).2⟩
theorem FrK.sm {G H : Hp} {tg : Addr → Option Tg} (f : FrK G H tg) : Same G H := fun b o e => (f b o e).1
/-- one thing more -/
theorem FrK.add {G H : Hp} {tg : Addr → Option Tg} {p : Addr} {o : HO} (f : FrK G H tg) (e : H p = some o) (t : tg p = none) : FrK (L2.upd G p o) H tg := fun b u q => by
  by_cases z : b = p
  · rw [z, upd_same] at q
    cases q
    rw [z]
    exact ⟨e, t⟩
  · rw [upd_ne z] at q
    exact f b u q
theorem FrK.sub {G G0 H : Hp} {tg : Addr → Option Tg} (f : FrK G H tg) (k : Same G0 G) : FrK G0 H tg := fun b o e => f b o (k _ _ e)
/-! ### a new yard -/
def tgOf (ps : List (Addr × Tg)) : Addr → Option Tg := fun b => ps.lookup b
theorem tgOf_at : ∀ {ps : List (Addr × Tg)} {a : Addr} {t : Tg}, (ps.map (·.1)).Nodup → (a, t) ∈ ps → tgOf ps a = some t
  | (b, u) :: ps, a, t, h, m => by
    rw [List.map_cons, List.nodup_cons] at h
    show List.lookup a ((b, u) :: ps) = _
    rw [List.lookup_cons]
    rcases List.mem_cons.mp m with z | z
    · rw [show (a == b) = true from beq_iff_eq.mpr (congrArg Prod.fst z)]
      exact congrArg some (congrArg Prod.snd z).symm
    · have hne : (a == b) = false := beq_eq_false_iff_ne.mpr fun q => h.1 (List.mem_map.mpr ⟨_, z, q⟩)
      rw [hne]
      exact tgOf_at h.2 z
theorem tgOf_mem : ∀ {ps : List (Addr × Tg)} {a : Addr} {t : Tg}, tgOf ps a = some t → (a, t) ∈ ps
  | [], a, t, h => nomatch h
  | (b, u) :: ps, a, t, h => by
    have h' : List.lookup a ((b, u) :: ps) = some t := h
    rw [List.lookup_cons] at h'
    cases e : (a == b) with
    | true =>
      rw [e] at h'
      cases h'
      have q : a = b := eq_of_beq e
      rw [q]
      exact List.mem_cons_self ..
    | false =>
      rw [e] at h'
      exact List.mem_cons_of_mem _ (tgOf_mem h')
abbrev newTags (y st fr no nu lm mk hn fa rt lr rf rh lrf : Addr) : List (Addr × Tg) := [(y, .y), (mk, .mk), (lrf, .lrf), (lr, .lr), (rh, .lh ""), (rf, .lf ""), (rt, .lg ""), (fa, .fa), (hn, .hn), (lm, .lm), (nu, .nu), (no, .no), (fr, .fr), (st, .st)]
abbrev newYD (y st fr no nu lm mk hn fa rt lr rf rh lrf : Addr) : YD := ⟨y, st, fr, no, nu, lm, mk, hn, fa, lr, lrf, 0, kvNames, kvNumbers, ⟨rt, rf, rh, "root", 30, true, false, [], [], .non⟩, [], [], []⟩
theorem YardW.new {K : PySem.W.Frag} {H : Hp} {y st fr no nu lm mk hn fa rt lr rf rh lrf : Addr} (h : YNew K H y st fr no nu lm mk hn fa rt lr rf rh lrf) (nd : [mk, lrf, lr, rh, rf, rt, fa, hn, lm, nu, no, fr, st].Nodup) (hy : ∀ b ∈ [mk, lrf, lr, rh, rf, rt, fa, hn, lm, nu, no, fr, st], b ≠ y) :
    YardW K H (tgOf (newTags y st fr no nu lm mk hn fa rt lr rf rh lrf)) (newYD y st fr no nu lm mk hn fa rt lr rf rh lrf) := by
  have nd' : ((newTags y st fr no nu lm mk hn fa rt lr rf rh lrf).map (·.1)).Nodup := List.nodup_cons.mpr ⟨fun z => hy y z rfl, nd⟩
  have at_ : ∀ {a t}, (a, t) ∈ newTags y st fr no nu lm mk hn fa rt lr rf rh lrf → tgOf (newTags y st fr no nu lm mk hn fa rt lr rf rh lrf) a = some t := fun m => tgOf_at nd' m
  refine ⟨at_ (by simp), at_ (by simp), at_ (by simp), at_ (by simp), at_ (by simp), at_ (by simp), at_ (by simp), at_ (by simp), at_ (by simp), at_ (by simp), at_ (by simp), h.ins, h.stE, h.frE, h.noE, h.nuE, h.lmE, h.mkE, h.hnE, h.faE, h.lrE, h.lrfE,
    ⟨⟨at_ (by simp), at_ (by simp), at_ (by simp), h.rtE, h.rflE, h.rhlE, (fun f hf => nomatch hf)⟩, rfl⟩, (fun x hx => nomatch hx), List.nodup_nil, (fun i x hx => nomatch hx), fun b t e => ?_⟩
  have m := tgOf_mem e
  obtain ⟨dy, e1⟩ := h.ins
  obtain ⟨d2, e2⟩ := h.rtE
  obtain ⟨d3, e3⟩ := h.lrE
  simp only [List.mem_cons, Prod.mk.injEq, List.not_mem_nil, or_false] at m
  rcases m with ⟨rfl, _⟩ | ⟨rfl, _⟩ | ⟨rfl, _⟩ | ⟨rfl, _⟩ | ⟨rfl, _⟩ | ⟨rfl, _⟩ | ⟨rfl, _⟩ | ⟨rfl, _⟩ | ⟨rfl, _⟩ | ⟨rfl, _⟩ | ⟨rfl, _⟩ | ⟨rfl, _⟩ | ⟨rfl, _⟩ | ⟨rfl, _⟩
  · exact ⟨_, e1, Nat.le_of_ble_eq_true rfl⟩
  · exact ⟨_, h.mkE, True.intro⟩
  · exact ⟨_, h.lrfE, True.intro⟩
  · exact ⟨_, e3, Nat.le_of_ble_eq_true rfl⟩
  · exact ⟨_, h.rhlE, True.intro⟩
  · exact ⟨_, h.rflE, True.intro⟩
  · exact ⟨_, e2, Nat.le_of_ble_eq_true rfl⟩
  · exact ⟨_, h.faE, True.intro⟩
  · exact ⟨_, h.hnE, True.intro⟩
  · exact ⟨_, h.lmE, True.intro⟩
  · exact ⟨_, h.nuE, True.intro⟩
  · exact ⟨_, h.noE, True.intro⟩
  · exact ⟨_, h.frE, True.intro⟩
  · exact ⟨_, h.stE, True.intro⟩
/-- nothing that stood is tagged -/
theorem FrK.new {G H : Hp} {y st fr no nu lm mk hn fa rt lr rf rh lrf : Addr} (s : Same G H) (hn' : ∀ b ∈ [mk, lrf, lr, rh, rf, rt, fa, hn, lm, nu, no, fr, st], G b = none) (hy : G y = none) : FrK G H (tgOf (newTags y st fr no nu lm mk hn fa rt lr rf rh lrf)) := fun b o e => by
  refine ⟨s _ _ e, ?_⟩
  cases q : tgOf (newTags y st fr no nu lm mk hn fa rt lr rf rh lrf) b with
  | none => rfl
  | some t =>
    have m : b ∈ y :: [mk, lrf, lr, rh, rf, rt, fa, hn, lm, nu, no, fr, st] := (List.mem_map (f := fun z : Addr × Tg => z.1)).mpr ⟨_, tgOf_mem q, rfl⟩
    rcases List.mem_cons.mp m with z | z
    · rw [z, hy] at e; cases e
    · rw [hn' b z] at e; cases e
end Ry
namespace Ry
open PySem PySem.Spec PyProof.Rows L2 He RyH
open C8 (pss_cut tCut Cal Met Mak pe_c pe_mk pe_mt pe_mt0 pe_gc)
/-! ### names of levels, the bar -/
theorem YardW.nmSet {K : PySem.W.Frag} {H : Hp} {tg : Addr → Option Tg} {Y : YD} (h : YardW K H tg Y) (ns us : List (Key × V)) : YardW K (L2.upd (L2.upd H Y.no (.dK ns)) Y.nu (.dK us)) tg { Y with names := ns, numbers := us } := by
  have kt : KpT tg (fun t => t = .no ∨ t = .nu) H (L2.upd (L2.upd H Y.no (.dK ns)) Y.nu (.dK us)) := (KpT.at h.tno (.inl rfl)).trans (KpT.at h.tnu (.inr rfl))
  have kk : ∀ {b o t}, H b = some o → tg b = some t → t ≠ .no → t ≠ .nu → (L2.upd (L2.upd H Y.no (.dK ns)) Y.nu (.dK us)) b = some o := fun {b o t} e et n1 n2 => kt b o e fun u z => by rw [et] at z; cases z; exact fun q => q.elim n1 n2
  have hne : Y.no ≠ Y.nu := fun z => by
    have z1 := h.tno
    rw [z, h.tnu] at z1
    cases z1
  obtain ⟨dy, ey⟩ := h.yE
  obtain ⟨dl, el⟩ := h.lrE
  exact { h with
    yE := ⟨dy, kk ey h.ty (fun z => nomatch z) (fun z => nomatch z)⟩, stE := kk h.stE h.tst (fun z => nomatch z) (fun z => nomatch z), frE := kk h.frE h.tfr (fun z => nomatch z) (fun z => nomatch z),
    noE := by rw [upd_ne hne, upd_same], nuE := upd_same, lmE := kk h.lmE h.tlm (fun z => nomatch z) (fun z => nomatch z), mkE := kk h.mkE h.tmk (fun z => nomatch z) (fun z => nomatch z), hnE := kk h.hnE h.thn (fun z => nomatch z) (fun z => nomatch z), faE := kk h.faE h.tfa (fun z => nomatch z) (fun z => nomatch z),
    lrE := ⟨dl, kk el h.tlr (fun z => nomatch z) (fun z => nomatch z)⟩, lrfE := kk h.lrfE h.tlf (fun z => nomatch z) (fun z => nomatch z)
    root := ⟨h.root.1.kp kt (fun z => z.elim (fun z => nomatch z) (fun z => nomatch z)) (fun z => z.elim (fun z => nomatch z) (fun z => nomatch z)) (fun z => z.elim (fun z => nomatch z) (fun z => nomatch z)), h.root.2⟩
    lgs := fun x hx => ⟨(h.lgs x hx).1.kp kt (fun z => z.elim (fun z => nomatch z) (fun z => nomatch z)) (fun z => z.elim (fun z => nomatch z) (fun z => nomatch z)) (fun z => z.elim (fun z => nomatch z) (fun z => nomatch z)), (h.lgs x hx).2⟩
    hds := fun i x hx => (h.hds i x hx).kp kt (fun z => z.elim (fun z => nomatch z) (fun z => nomatch z)) (fun z => z.elim (fun z => nomatch z) (fun z => nomatch z))
    live := live_upd (live_upd h.live True.intro) True.intro }
theorem nmSet_kp {K : PySem.W.Frag} {H : Hp} {tg : Addr → Option Tg} {Y : YD} (h : YardW K H tg Y) (ns us : List (Key × V)) : KpT tg (fun t => t = .no ∨ t = .nu) H (L2.upd (L2.upd H Y.no (.dK ns)) Y.nu (.dK us)) := (KpT.at h.tno (.inl rfl)).trans (KpT.at h.tnu (.inr rfl))
theorem ydF_bar (b : Int) (ck : Int) (st fr no nu : Addr) (bar : Int) (lm mk hn fa rt lr : Addr) : putF "bar_level" (.int b) (ydF ck st fr no nu bar lm mk hn fa rt lr) = ydF ck st fr no nu b lm mk hn fa rt lr := by kernel_rfl
theorem YardW.barSet {K : PySem.W.Frag} {H : Hp} {tg : Addr → Option Tg} {Y : YD} (h : YardW K H tg Y) (dy : Addr) (bar : Int) : YardW K (L2.upd H Y.y (.ins (ga K "Yard") dy (ydF 0 Y.st Y.fr Y.no Y.nu bar Y.lm Y.made Y.hn Y.fa Y.root.a Y.lr))) tg { Y with bar := bar } := by
  have kt : ∀ o, KpT tg (fun t => t = .y) H (L2.upd H Y.y o) := fun o => KpT.at h.ty rfl
  generalize ho : HO.ins (ga K "Yard") dy (ydF 0 Y.st Y.fr Y.no Y.nu bar Y.lm Y.made Y.hn Y.fa Y.root.a Y.lr) = o
  have kk : ∀ {b u t}, H b = some u → tg b = some t → t ≠ .y → (L2.upd H Y.y o) b = some u := fun {b u t} e et n1 => kt o b u e fun v z => by rw [et] at z; cases z; exact n1
  obtain ⟨dl, el⟩ := h.lrE
  exact { h with
    yE := ⟨dy, by rw [ho]; exact upd_same⟩, stE := kk h.stE h.tst (fun z => nomatch z), frE := kk h.frE h.tfr (fun z => nomatch z), noE := kk h.noE h.tno (fun z => nomatch z), nuE := kk h.nuE h.tnu (fun z => nomatch z), lmE := kk h.lmE h.tlm (fun z => nomatch z),
    mkE := kk h.mkE h.tmk (fun z => nomatch z), hnE := kk h.hnE h.thn (fun z => nomatch z), faE := kk h.faE h.tfa (fun z => nomatch z), lrE := ⟨dl, kk el h.tlr (fun z => nomatch z)⟩, lrfE := kk h.lrfE h.tlf (fun z => nomatch z)
    root := ⟨h.root.1.kp (kt o) (fun z => nomatch z) (fun z => nomatch z) (fun z => nomatch z), h.root.2⟩
    lgs := fun x hx => ⟨(h.lgs x hx).1.kp (kt o) (fun z => nomatch z) (fun z => nomatch z) (fun z => nomatch z), (h.lgs x hx).2⟩
    hds := fun i x hx => (h.hds i x hx).kp (kt o) (fun z => nomatch z) (fun z => nomatch z)
    live := live_upd h.live (by rw [← ho]; exact Nat.le_of_ble_eq_true rfl) }
/-! ### a new logger -/
def parSet (rows : List (Str × Addr)) (rt : Addr) (x : Str × LgR) : Str × LgR := (x.1, { x.2 with par := .ref (parentA rows rt x.1) })
theorem rows_mem {Y : YD} {x : Str × LgR} (h : x ∈ Y.lgs) : (x.1, x.2.a) ∈ Y.rows := List.mem_map.mpr ⟨x, h, rfl⟩
theorem mem_rows {Y : YD} {r : Str × Addr} (h : r ∈ Y.rows) : ∃ x ∈ Y.lgs, x.1 = r.1 ∧ x.2.a = r.2 := by
  obtain ⟨x, hx, rfl⟩ := List.mem_map.mp h
  exact ⟨x, hx, rfl, rfl⟩
theorem rows_keys (Y : YD) : Y.rows.map (·.1) = Y.lgs.map (·.1) := by
  unfold YD.rows
  rw [List.map_map]
  rfl
theorem YardW.ndA {K : PySem.W.Frag} {H : Hp} {tg : Addr → Option Tg} {Y : YD} (h : YardW K H tg Y) : (Y.rows.map (·.2)).Nodup := by
  have aux : ∀ {l : List (Str × LgR)}, (∀ x ∈ l, tg x.2.a = some (.lg x.1)) → (l.map (·.1)).Nodup → (l.map fun x => x.2.a).Nodup := by
    intro l
    induction l with
    | nil => intro _ _; exact List.nodup_nil
    | cons x l ih =>
      intro ht hn
      rw [List.map_cons, List.nodup_cons] at hn ⊢
      refine ⟨fun z => ?_, ih (fun y hy => ht y (List.mem_cons_of_mem _ hy)) hn.2⟩
      obtain ⟨y, hy, e⟩ := List.mem_map.mp z
      have e1 := ht y (List.mem_cons_of_mem _ hy)
      rw [e, ht x (List.mem_cons_self ..)] at e1
      have e2 : x.1 = y.1 := by injection e1 with e1; injection e1
      exact hn.1 (List.mem_map.mpr ⟨y, hy, e2.symm⟩)
  have z := aux (l := Y.lgs) (fun x hx => (h.lgs x hx).1.ta) h.nd
  unfold YD.rows
  rw [List.map_map]
  exact z
theorem YardW.lgsW {K : PySem.W.Frag} {H : Hp} {tg : Addr → Option Tg} {Y : YD} (h : YardW K H tg Y) (hl : Y.lgs.length ≤ 90) : Lgs K H Y.y Y.lm Y.rows := by
  refine ⟨fun r hr => ?_, fun r hr => ?_, h.ndA, by rw [rows_keys]; exact h.nd, fun ⟨r, hr, e⟩ => ?_, by unfold YD.rows; rw [List.length_map]; exact hl⟩
  · obtain ⟨x, hx, e1, _⟩ := mem_rows hr
    rw [← e1]
    exact (h.lgs x hx).2.2
  · obtain ⟨x, hx, _, e2⟩ := mem_rows hr
    obtain ⟨dx, q⟩ := (h.lgs x hx).1.aE
    exact ⟨dx, _, by rw [← e2]; exact q, csz rfl⟩
  · obtain ⟨x, hx, _, e2⟩ := mem_rows hr
    have z := (h.lgs x hx).1.ta
    rw [e2, e, h.ty] at z
    cases z
theorem YardW.ymap {K : PySem.W.Frag} {H : Hp} {tg : Addr → Option Tg} {Y : YD} (h : YardW K H tg Y) : YMap K H Y.y Y.lm Y.root.a (ydF 0 Y.st Y.fr Y.no Y.nu Y.bar Y.lm Y.made Y.hn Y.fa Y.root.a Y.lr) Y.rows := ⟨h.yE, (yd_lk ..).2.2.2.2.2.1, (yd_lk ..).2.2.2.2.2.2.1, h.lmE⟩
def YD.lgNew (Y : YD) (nm : Str) (a fl hl : Addr) : YD := { Y with lgs := Y.lgs.map (parSet (Y.rows ++ [(nm, a)]) Y.root.a) ++ [(nm, ⟨a, fl, hl, nm, 0, true, false, [], [], .ref (parentA (Y.rows ++ [(nm, a)]) Y.root.a nm)⟩)] }
theorem lgNew_rows (Y : YD) (nm : Str) (a fl hl : Addr) : (Y.lgNew nm a fl hl).rows = Y.rows ++ [(nm, a)] := by
  unfold YD.lgNew YD.rows
  show List.map _ (_ ++ _) = _
  rw [List.map_append, List.map_map]
  rfl
theorem lgNew_keys (Y : YD) (nm : Str) (a fl hl : Addr) : (Y.lgNew nm a fl hl).lgs.map (·.1) = Y.lgs.map (·.1) ++ [nm] := by
  unfold YD.lgNew
  show List.map _ (_ ++ _) = _
  rw [List.map_append, List.map_map]
  rfl
theorem YardW.lgNew {K : PySem.W.Frag} {H H' : Hp} {tg : Addr → Option Tg} {Y : YD} {nm : Str} {a fl hl dx : Addr} (h : YardW K H tg Y) (hm : nm ∈ logMenu) (hnew : nm ∉ Y.lgs.map (·.1)) (ha : H a = none) (hf : H fl = none) (hh : H hl = none) (hfh : fl ≠ hl) (haf : a ≠ fl) (hah : a ≠ hl)
    (elm : H' Y.lm = some (.dK ((Y.rows ++ [(nm, a)]).map rowE))) (ea : H' a = some (.ins (ga K "Logger") dx (lgF Y.y fl nm 0 true false hl (.ref (parentA (Y.rows ++ [(nm, a)]) Y.root.a nm))))) (ef : H' fl = some (.lst [])) (eh : H' hl = some (.lst []))
    (all : ∀ r ∈ Y.rows, ∀ dx fs, H r.2 = some (.ins (ga K "Logger") dx fs) → H' r.2 = some (.ins (ga K "Logger") dx (putF "parent" (.ref (parentA (Y.rows ++ [(nm, a)]) Y.root.a r.1)) fs))) (k : Kp (fun b => b = Y.lm ∨ rowsM Y.rows b) H H') :
    YardW K H' (tgU (tgU (tgU tg a (.lg nm)) fl (.lf nm)) hl (.lh nm)) (Y.lgNew nm a fl hl) ∧ Ag H tg (tgU (tgU (tgU tg a (.lg nm)) fl (.lf nm)) hl (.lh nm)) ∧ KpT tg (fun t => t = .lm ∨ ∃ k, t = .lg k) H H' := by
  have ag : Ag H tg (tgU (tgU (tgU tg a (.lg nm)) fl (.lf nm)) hl (.lh nm)) := ((Ag.refl.new ha).new hf).new hh
  have kp : KpT tg (fun t => t = .lm ∨ ∃ k, t = .lg k) H H' := fun b o e n => k b o e fun z => by
    rcases z with z | ⟨r, hr, z⟩
    · exact n .lm (by rw [z]; exact h.tlm) (.inl rfl)
    · obtain ⟨x, hx, _, e2⟩ := mem_rows hr
      exact n (.lg x.1) (by rw [← z, ← e2]; exact (h.lgs x hx).1.ta) (.inr ⟨_, rfl⟩)
  have kt : KpT (tgU (tgU (tgU tg a (.lg nm)) fl (.lf nm)) hl (.lh nm)) (fun t => t = .lm ∨ ∃ k, t = .lg k) H H' := fun b o e n => kp b o e fun t z => n t ((ag b o e).trans z)
  have kk : ∀ {b o t}, H b = some o → tg b = some t → t ≠ .lm → (∀ k, t ≠ .lg k) → H' b = some o := fun {b o t} e et n1 n2 => kp b o e fun u z => by rw [et] at z; cases z; exact fun q => q.elim n1 fun ⟨k, q⟩ => n2 k q
  have hne : nm ≠ "" := fun z => by
    have := (logMenu_ne nm hm).1
    rw [z] at this
    exact absurd this (by decide)
  obtain ⟨dy, ey⟩ := h.yE
  obtain ⟨dl, el⟩ := h.lrE
  obtain ⟨dr, er⟩ := h.root.1.aE
  have rt : ¬ rowsM Y.rows Y.root.a := fun ⟨r, hr, z⟩ => by
    obtain ⟨x, hx, _, e2⟩ := mem_rows hr
    have q := (h.lgs x hx).1.ta
    rw [e2, z, h.root.1.ta] at q
    injection q with q
    injection q with q
    have hx2 := (h.lgs x hx).2.2
    rw [← q] at hx2
    have := (logMenu_ne "" hx2).1
    exact absurd this (by decide)
  have hlg : ∀ x ∈ Y.lgs, x.1 ≠ "" := fun x hx z => by
    have := (logMenu_ne _ (h.lgs x hx).2.2).1
    rw [z] at this
    exact absurd this (by decide)
  refine ⟨⟨(ag _ _ ey).trans h.ty, (ag _ _ h.stE).trans h.tst, (ag _ _ h.frE).trans h.tfr, (ag _ _ h.noE).trans h.tno, (ag _ _ h.nuE).trans h.tnu, (ag _ _ h.lmE).trans h.tlm, (ag _ _ h.mkE).trans h.tmk, (ag _ _ h.hnE).trans h.thn, (ag _ _ h.faE).trans h.tfa, (ag _ _ el).trans h.tlr, (ag _ _ h.lrfE).trans h.tlf,
    ⟨dy, kk ey h.ty (fun z => nomatch z) (fun _ z => nomatch z)⟩, kk h.stE h.tst (fun z => nomatch z) (fun _ z => nomatch z), kk h.frE h.tfr (fun z => nomatch z) (fun _ z => nomatch z), kk h.noE h.tno (fun z => nomatch z) (fun _ z => nomatch z), kk h.nuE h.tnu (fun z => nomatch z) (fun _ z => nomatch z), by rw [lgNew_rows]; exact elm,
    kk h.mkE h.tmk (fun z => nomatch z) (fun _ z => nomatch z), kk h.hnE h.thn (fun z => nomatch z) (fun _ z => nomatch z), kk h.faE h.tfa (fun z => nomatch z) (fun _ z => nomatch z), ⟨dl, kk el h.tlr (fun z => nomatch z) (fun _ z => nomatch z)⟩, kk h.lrfE h.tlf (fun z => nomatch z) (fun _ z => nomatch z),
    ⟨⟨(ag _ _ er).trans h.root.1.ta, (ag _ _ h.root.1.flE).trans h.root.1.tf, (ag _ _ h.root.1.hlE).trans h.root.1.th, ⟨dr, ?_⟩, kk h.root.1.flE h.root.1.tf (fun z => nomatch z) (fun _ z => nomatch z), kk h.root.1.hlE h.root.1.th (fun z => nomatch z) (fun _ z => nomatch z), fun f hf => ((h.root.1.fs f hf).ag ag).kp kt⟩, h.root.2⟩,
    fun x hx => ?_, ?_, fun i x hx => ((h.hds i x hx).ag ag).kp kt (fun z => z.elim (fun z => nomatch z) fun ⟨_, z⟩ => nomatch z) (fun z => z.elim (fun z => nomatch z) fun ⟨_, z⟩ => nomatch z), fun b t e => ?_⟩, ag, kp⟩
  · refine k _ _ er fun z => ?_
    rcases z with z | z
    · exact ne_of er h.lmE (fun q => nomatch q) z
    · exact rt z
  · rcases List.mem_append.mp (show x ∈ Y.lgs.map _ ++ _ from hx) with z | z
    · obtain ⟨x0, hx0, rfl⟩ := List.mem_map.mp z
      have q := h.lgs x0 hx0
      obtain ⟨d0, e0⟩ := q.1.aE
      have e1 := all _ (rows_mem hx0) d0 _ e0
      rw [pf_lp] at e1
      exact ⟨⟨(ag _ _ e0).trans q.1.ta, (ag _ _ q.1.flE).trans q.1.tf, (ag _ _ q.1.hlE).trans q.1.th, ⟨d0, e1⟩, kk q.1.flE q.1.tf (fun z => nomatch z) (fun _ z => nomatch z), kk q.1.hlE q.1.th (fun z => nomatch z) (fun _ z => nomatch z), fun f hf => ((q.1.fs f hf).ag ag).kp kt⟩, q.2⟩
    · rw [List.mem_singleton.mp z]
      refine ⟨⟨?_, ?_, tgU_same, ⟨dx, ea⟩, ef, eh, (fun f hf => nomatch hf)⟩, rfl, hm⟩
      · show tgU (tgU (tgU tg a _) fl _) hl _ a = _
        rw [tgU_ne hah, tgU_ne haf, tgU_same]
      · show tgU (tgU (tgU tg a _) fl _) hl _ fl = _
        rw [tgU_ne hfh, tgU_same]
  · rw [lgNew_keys]
    exact List.nodup_append.mpr ⟨h.nd, by simp, fun x hx y hy => by rw [List.mem_singleton.mp hy]; intro z; rw [z] at hx; exact hnew hx⟩
  · by_cases b1 : b = hl
    · exact ⟨.lst _, by rw [b1]; exact eh, True.intro⟩
    rw [tgU_ne b1] at e
    by_cases b2 : b = fl
    · exact ⟨.lst _, by rw [b2]; exact ef, True.intro⟩
    rw [tgU_ne b2] at e
    by_cases b3 : b = a
    · exact ⟨.ins _ _ _, by rw [b3]; exact ea, Nat.le_of_ble_eq_true rfl⟩
    rw [tgU_ne b3] at e
    by_cases b4 : b = Y.lm
    · exact ⟨.dK _, by rw [b4]; exact elm, True.intro⟩
    by_cases b5 : rowsM Y.rows b
    · obtain ⟨r, hr, z⟩ := b5
      obtain ⟨x, hx, _, e2⟩ := mem_rows hr
      obtain ⟨d0, e0⟩ := (h.lgs x hx).1.aE
      have e1 := all _ hr d0 _ (by rw [← e2]; exact e0)
      rw [pf_lp, z] at e1
      exact ⟨_, e1, Nat.le_of_ble_eq_true rfl⟩
    · obtain ⟨o, q, s⟩ := h.live b t e
      exact ⟨o, k b o q fun z => z.elim b4 b5, s⟩
end Ry
namespace Ry
open PySem PySem.Spec PyProof.Rows L2 He RyH
open C8 (pss_cut tCut Cal Met Mak pe_c pe_mk pe_mt pe_mt0 pe_gc)
/-! ### the logger of a name -/
def YD.lgAt (Y : YD) (k : Str) : Option LgR := if k = "" then some Y.root else Y.lgs.lookup k
def YD.putLg (Y : YD) (k : Str) (r : LgR) : YD := if k = "" then { Y with root := r } else Y.setLg k r
theorem put_root {Y : YD} {r : LgR} : Y.putLg "" r = { Y with root := r } := if_pos rfl
theorem put_ne {Y : YD} {k : Str} {r : LgR} (h : k ≠ "") : Y.putLg k r = Y.setLg k r := if_neg h
theorem at_root {Y : YD} : Y.lgAt "" = some Y.root := if_pos rfl
theorem at_ne {Y : YD} {k : Str} (h : k ≠ "") : Y.lgAt k = Y.lgs.lookup k := if_neg h
theorem put_same {Y : YD} {k : Str} {r : LgR} : (Y.putLg k r).y = Y.y ∧ (Y.putLg k r).hds = Y.hds ∧ (Y.putLg k r).bar = Y.bar ∧ (Y.putLg k r).names = Y.names ∧ (Y.putLg k r).numbers = Y.numbers ∧ (Y.putLg k r).mkx = Y.mkx := by
  by_cases h : k = ""
  · subst h
    rw [put_root]
    exact ⟨rfl, rfl, rfl, rfl, rfl, rfl⟩
  · rw [put_ne h]
    exact ⟨rfl, rfl, rfl, rfl, rfl, rfl⟩
theorem lookup_set {k : Str} {r r0 : LgR} : ∀ {l : List (Str × LgR)}, l.lookup k = some r0 → (l.map fun x => if x.1 = k then (k, r) else x).lookup k = some r
  | (a, b) :: l, h => by
    rw [List.lookup_cons] at h
    rw [List.map_cons]
    by_cases e : a = k
    · rw [if_pos e, List.lookup_cons, show (k == k) = true from beq_self_eq_true k]
    · have e' : (k == a) = false := beq_eq_false_iff_ne.mpr fun z => e z.symm
      rw [e'] at h
      rw [if_neg e, List.lookup_cons, e']
      exact lookup_set h
theorem lgAt_put {Y : YD} {k : Str} {r r0 : LgR} (h : Y.lgAt k = some r0) : (Y.putLg k r).lgAt k = some r := by
  by_cases e : k = ""
  · subst e
    rw [put_root, at_root]
  · rw [at_ne e] at h
    rw [put_ne e, at_ne e]
    exact lookup_set h
theorem put_put {Y : YD} {k : Str} {r r' : LgR} : (Y.putLg k r).putLg k r' = Y.putLg k r' := by
  by_cases e : k = ""
  · subst e
    rw [put_root, put_root, put_root]
  · rw [put_ne e, put_ne e, put_ne e]
    unfold YD.setLg
    show ({ Y with lgs := _ } : YD) = _
    congr 1
    rw [List.map_map]
    refine List.map_congr_left fun x _ => ?_
    show (if (if x.1 = k then (k, r) else x).1 = k then (k, r') else (if x.1 = k then (k, r) else x)) = if x.1 = k then (k, r') else x
    by_cases z : x.1 = k
    · simp [z]
    · simp [z]
theorem lookup_mem {α : Type} {k : Str} {v : α} : ∀ {l : List (Str × α)}, l.lookup k = some v → (k, v) ∈ l
  | (a, b) :: l, h => by
    rw [List.lookup_cons] at h
    cases e : (k == a) with
    | true =>
      rw [e] at h
      cases h
      rw [eq_of_beq e]
      exact List.mem_cons_self ..
    | false =>
      rw [e] at h
      exact List.mem_cons_of_mem _ (lookup_mem h)
theorem mem_lookup {α : Type} {k : Str} {v : α} {l : List (Str × α)} (nd : (l.map (·.1)).Nodup) (h : (k, v) ∈ l) : l.lookup k = some v := by
  obtain ⟨j, hj, e⟩ := List.getElem_of_mem h
  exact lookup_nd (r := (k, v)) nd (by rw [List.getElem?_eq_getElem hj, e])
theorem put_self {Y : YD} {k : Str} {r : LgR} (nd : (Y.lgs.map (·.1)).Nodup) (h : Y.lgAt k = some r) : Y.putLg k r = Y := by
  by_cases e : k = ""
  · subst e
    rw [at_root] at h
    cases h
    rw [put_root]
  · rw [at_ne e] at h
    rw [put_ne e]
    unfold YD.setLg
    have z : (Y.lgs.map fun x => if x.1 = k then (k, r) else x) = Y.lgs := by
      refine (List.map_congr_left fun x hx => ?_).trans (List.map_id _)
      by_cases q : x.1 = k
      · have m := mem_lookup (k := x.1) (v := x.2) nd hx
        rw [q, h] at m
        cases m
        rw [if_pos q, ← q]
        rfl
      · rw [if_neg q]
        rfl
    rw [z]
theorem YardW.lgOk {K : PySem.W.Frag} {H : Hp} {tg : Addr → Option Tg} {Y : YD} {k : Str} {r : LgR} (h : YardW K H tg Y) (e : Y.lgAt k = some r) : LgOk K H tg Y.y k r := by
  by_cases z : k = ""
  · subst z
    rw [at_root] at e
    cases e
    exact h.root.1
  · rw [at_ne z] at e
    exact (h.lgs _ (lookup_mem e)).1
theorem logMenu_em {x : Str} (h : x ∈ logMenu) : x ≠ "" := fun z => by
  have := (logMenu_ne x h).1
  rw [z] at this
  exact absurd this (by decide)
theorem LgOk.live {K : PySem.W.Frag} {H H' : Hp} {tg : Addr → Option Tg} {y : Addr} {k : Str} {r : LgR} (x : LgOk K H' tg y k r) (kp : Kp (fun b => b = r.a ∨ b = r.fl ∨ b = r.hl) H H') (hl : ∀ b t, tg b = some t → ∃ o, H b = some o ∧ okShape o) : ∀ b t, tg b = some t → ∃ o, H' b = some o ∧ okShape o := fun b t e => by
  by_cases e1 : b = r.a
  · obtain ⟨dx, q⟩ := x.aE
    exact ⟨_, by rw [e1]; exact q, Nat.le_of_ble_eq_true rfl⟩
  · by_cases e2 : b = r.fl
    · exact ⟨.lst _, by rw [e2]; exact x.flE, True.intro⟩
    · by_cases e3 : b = r.hl
      · exact ⟨.lst _, by rw [e3]; exact x.hlE, True.intro⟩
      · obtain ⟨o, q, s⟩ := hl b t e
        exact ⟨o, kp _ _ q fun z => by rcases z with z | z | z <;> first | exact e1 z | exact e2 z | exact e3 z, s⟩
/-- a step at a logger -/
theorem YardW.lgStep {K : PySem.W.Frag} {H H' : Hp} {tg : Addr → Option Tg} {Y : YD} {k : Str} {r r' r0 : LgR} (h : YardW K H tg (Y.putLg k r)) (e : Y.lgAt k = some r0) (hr : LgOk K H' tg Y.y k r') (ha : r'.a = r.a) (hf : r'.fl = r.fl) (hh : r'.hl = r.hl) (hn : r'.name = r.name)
    (kp : Kp (fun b => b = r.a ∨ b = r.fl ∨ b = r.hl) H H') : YardW K H' tg (Y.putLg k r') ∧ KpT tg (mLg k) H H' := by
  have e1 : (Y.putLg k r).lgAt k = some r := lgAt_put e
  have ok := h.lgOk e1
  have kt : KpT tg (mLg k) H H' := fun b o q n => kp b o q fun z => by
    rcases z with z | z | z
    · exact n _ (by rw [z]; exact ok.ta) (.inl rfl)
    · exact n _ (by rw [z]; exact ok.tf) (.inr (.inl rfl))
    · exact n _ (by rw [z]; exact ok.th) (.inr (.inr rfl))
  have hl := LgOk.live hr (by rw [ha, hf, hh]; exact kp) h.live
  refine ⟨?_, kt⟩
  rw [← put_put (r := r)]
  by_cases z : k = ""
  · subst z
    rw [at_root] at e1
    have hr' : LgOk K H' tg (Y.putLg "" r).y "" r' := by rw [put_same.1]; exact hr
    rw [put_root]
    refine YardW.rootSet h kt hr' ?_ ?_ hl fun x hx => logMenu_em (h.lgs x hx).2.2
    · rw [ha]
      exact congrArg (·.a) (Option.some.inj e1).symm
    · rw [hn]
      have := h.root.2
      rw [Option.some.inj e1] at this
      exact this
  · rw [at_ne z] at e1
    have hr' : LgOk K H' tg (Y.putLg k r).y k r' := by rw [put_same.1]; exact hr
    rw [put_ne z (Y := Y.putLg k r)]
    refine YardW.lgsSet h (lookup_mem e1) kt hr' ha ?_ hl z
    rw [hn]
    exact (h.lgs _ (lookup_mem e1)).2.1
theorem LgOk.setA {K : PySem.W.Frag} {H : Hp} {tg : Addr → Option Tg} {y : Addr} {k : Str} {r r' : LgR} {dx : Addr} (x : LgOk K H tg y k r) (ha : r'.a = r.a) (hf : r'.fl = r.fl) (hh : r'.hl = r.hl) (hs : r'.fs = r.fs) (hhs : r'.hs = r.hs) :
    LgOk K (L2.upd H r.a (.ins (ga K "Logger") dx (lgF y r'.fl r'.name r'.level r'.prop r'.dis r'.hl r'.par))) tg y k r' := by
  obtain ⟨d0, e0⟩ := x.aE
  have kt : ∀ o, KpT tg (mLg k) H (L2.upd H r.a o) := fun o => KpT.at x.ta (.inl rfl)
  refine ⟨by rw [ha]; exact x.ta, by rw [hf]; exact x.tf, by rw [hh]; exact x.th, ⟨dx, by rw [ha, upd_same]⟩, ?_, ?_, fun f hfm => (x.fs f (by rw [← hs]; exact hfm)).kp (kt _)⟩
  · rw [hf, hs, upd_ne (ne_of x.flE e0 fun z => nomatch z)]
    exact x.flE
  · rw [hh, hhs, upd_ne (ne_of x.hlE e0 fun z => nomatch z)]
    exact x.hlE
theorem LgOk.flhl {K : PySem.W.Frag} {H : Hp} {tg : Addr → Option Tg} {y : Addr} {k : Str} {r : LgR} (x : LgOk K H tg y k r) : r.fl ≠ r.hl := fun z => by
  have e := x.tf
  rw [z, x.th] at e
  cases e
theorem LgOk.addF {K : PySem.W.Frag} {H : Hp} {tg : Addr → Option Tg} {y : Addr} {k : Str} {r : LgR} (x : LgOk K H tg y k r) {f : FlR} (hf : FlOk K H tg f) : LgOk K (L2.upd H r.fl (.lst (((r.fs.map FlR.addr) ++ [f.addr]).map V.ref))) tg y k { r with fs := r.fs ++ [f] } := by
  obtain ⟨dx, e⟩ := x.aE
  have kt : ∀ o, KpT tg (mLg k) H (L2.upd H r.fl o) := fun o => KpT.at x.tf (.inr (.inl rfl))
  refine ⟨x.ta, x.tf, x.th, ⟨dx, ?_⟩, ?_, ?_, fun g hg => ?_⟩
  · rw [upd_ne (ne_of e x.flE fun z => nomatch z)]
    exact e
  · show L2.upd H r.fl _ r.fl = some (.lst (((r.fs ++ [f]).map FlR.addr).map V.ref))
    rw [upd_same, List.map_append (f := FlR.addr)]
    rfl
  · rw [upd_ne x.flhl.symm]
    exact x.hlE
  · rcases List.mem_append.mp (show g ∈ r.fs ++ [f] from hg) with z | z
    · exact (x.fs g z).kp (kt _)
    · rw [List.mem_singleton.mp z]
      exact hf.kp (kt _)
theorem LgOk.addH {K : PySem.W.Frag} {H : Hp} {tg : Addr → Option Tg} {y : Addr} {k : Str} {r : LgR} (x : LgOk K H tg y k r) (a : Addr) : LgOk K (L2.upd H r.hl (.lst ((r.hs ++ [a]).map V.ref))) tg y k { r with hs := r.hs ++ [a] } := by
  obtain ⟨dx, e⟩ := x.aE
  have kt : ∀ o, KpT tg (mLg k) H (L2.upd H r.hl o) := fun o => KpT.at x.th (.inr (.inr rfl))
  refine ⟨x.ta, x.tf, x.th, ⟨dx, ?_⟩, ?_, upd_same, fun g hg => (x.fs g hg).kp (kt _)⟩
  · rw [upd_ne (ne_of e x.hlE fun z => nomatch z)]
    exact e
  · rw [upd_ne x.flhl]
    exact x.flE
theorem lgF_level (y fl : Addr) (nm : Str) (lv : Int) (pr di : Bool) (hl : Addr) (pa : V) (i : Int) : putF "level" (.int i) (lgF y fl nm lv pr di hl pa) = lgF y fl nm i pr di hl pa := by kernel_rfl
theorem lgF_prop (y fl : Addr) (nm : Str) (lv : Int) (pr di : Bool) (hl : Addr) (pa : V) (b : Bool) : putF "propagate" (.bl b) (lgF y fl nm lv pr di hl pa) = lgF y fl nm lv b di hl pa := by kernel_rfl
theorem lgF_dis (y fl : Addr) (nm : Str) (lv : Int) (pr di : Bool) (hl : Addr) (pa : V) (b : Bool) : putF "disabled" (.bl b) (lgF y fl nm lv pr di hl pa) = lgF y fl nm lv pr b hl pa := by kernel_rfl
theorem lgF_lk (y fl : Addr) (nm : Str) (lv : Int) (pr di : Bool) (hl : Addr) (pa : V) : lk (lgF y fl nm lv pr di hl pa) "setLevel" = none ∧ lk (lgF y fl nm lv pr di hl pa) "setPropagate" = none ∧ lk (lgF y fl nm lv pr di hl pa) "setDisabled" = none ∧ lk (lgF y fl nm lv pr di hl pa) "addFilter" = none ∧ lk (lgF y fl nm lv pr di hl pa) "addHandler" = none ∧
    lk (lgF y fl nm lv pr di hl pa) "yard" = some (.ref y) ∧ lk (lgF y fl nm lv pr di hl pa) "filters" = some (.ref fl) ∧ lk (lgF y fl nm lv pr di hl pa) "handlers" = some (.ref hl) := ⟨by kernel_rfl, by kernel_rfl, by kernel_rfl, by kernel_rfl, by kernel_rfl, by kernel_rfl, by kernel_rfl, by kernel_rfl⟩
end Ry
namespace Ry
open PySem PySem.Spec PyProof.Rows L2 He RyH
open C8 (pss_cut tCut Cal Met Mak pe_c pe_mk pe_mt pe_mt0 pe_gc)
/-! ### lists that are not the yard's may change -/
def Big : HO → Prop
  | .lst _ => True
  | .ins _ _ fs => 7 ≤ fs.length
  | .dK kvs => kvs ≠ []
  | .tbl _ => True
  | _ => False
def KpU (tg : Addr → Option Tg) (H H' : Hp) : Prop := ∀ b o, H b = some o → (tg b = none → ¬ Big o) → H' b = some o
theorem KpU.tagged {tg : Addr → Option Tg} {H H' : Hp} (k : KpU tg H H') {b : Addr} {o : HO} {t : Tg} (e : H b = some o) (h : tg b = some t) : H' b = some o := k b o e fun z => by rw [h] at z; cases z
theorem KpU.at_ {tg : Addr → Option Tg} {H : Hp} {p : Addr} {u o : HO} (t : tg p = none) (e : H p = some u) (hb : Big u) : KpU tg H (L2.upd H p o) := fun b w q n => by
  rw [upd_ne (fun z => by rw [z, e] at q; cases q; rw [z] at n; exact n t hb)]
  exact q
theorem KpU.lst {tg : Addr → Option Tg} {H : Hp} {p : Addr} {xs : List V} {o : HO} (t : tg p = none) (e : H p = some (.lst xs)) : KpU tg H (L2.upd H p o) := KpU.at_ t e True.intro
theorem FlOk.kpu {K : PySem.W.Frag} {tg : Addr → Option Tg} {H H' : Hp} {f : FlR} (h : FlOk K H tg f) (k : KpU tg H H') : FlOk K H' tg f := by
  cases f with
  | fil a x =>
    obtain ⟨t, dx, e⟩ := h
    exact ⟨t, dx, k _ _ e fun _ z => absurd z (Nat.not_le_of_lt (Nat.lt_of_sub_eq_succ rfl))⟩
  | fn a =>
    obtain ⟨t, e⟩ := h
    exact ⟨t, k _ _ e fun _ z => z⟩
theorem LgOk.kpu {K : PySem.W.Frag} {tg : Addr → Option Tg} {H H' : Hp} {y : Addr} {key : Str} {r : LgR} (h : LgOk K H tg y key r) (k : KpU tg H H') : LgOk K H' tg y key r := by
  obtain ⟨dx, e⟩ := h.aE
  exact ⟨h.ta, h.tf, h.th, ⟨dx, k.tagged e h.ta⟩, k.tagged h.flE h.tf, k.tagged h.hlE h.th, fun f hf => (h.fs f hf).kpu k⟩
theorem FmT.kpu {K : PySem.W.Frag} {tg : Addr → Option Tg} {H H' : Hp} {a dd : Addr} {b : Bool} {ps : List FP} (h : FmT K H tg a b ps dd) (k : KpU tg H H') : FmT K H' tg a b ps dd := by
  obtain ⟨dx, q, js, t1, t2, t3, e1, e2, e3, e4⟩ := h
  refine ⟨dx, q, js, t1, t2, t3, k _ _ e1 (fun _ z => absurd z (Nat.not_le_of_lt (Nat.lt_of_sub_eq_succ rfl))), k _ _ e2 (fun _ z => z), Paired.impl e3 fun v j hj => ?_, k _ _ e4 (fun _ z => z rfl)⟩
  cases j with
  | txt l => exact hj
  | fld nm =>
    obtain ⟨c, d, e, z, q⟩ := hj
    exact ⟨c, d, e, z, k _ _ q (fun _ z => absurd z (Nat.not_le_of_lt (Nat.lt_of_sub_eq_succ rfl)))⟩
theorem HdOk.kpu {K : PySem.W.Frag} {tg : Addr → Option Tg} {H H' : Hp} {y : Addr} {i : Nat} {h : HdR} (x : HdOk K H tg y i h) (k : KpU tg H H') : HdOk K H' tg y i h := by
  obtain ⟨dx, e⟩ := x.aE
  exact ⟨x.ta, x.tf, ⟨dx, k.tagged e x.ta⟩, k.tagged x.flE x.tf, fun f hf => (x.fs f hf).kpu k, fun a dd b ps e => (x.fm a dd b ps e).kpu k⟩
theorem YardW.kpu {K : PySem.W.Frag} {H H' : Hp} {tg : Addr → Option Tg} {Y : YD} (h : YardW K H tg Y) (k : KpU tg H H') : YardW K H' tg Y := by
  obtain ⟨dy, ey⟩ := h.yE
  obtain ⟨dl, el⟩ := h.lrE
  exact { h with
    yE := ⟨dy, k.tagged ey h.ty⟩, stE := k.tagged h.stE h.tst, frE := k.tagged h.frE h.tfr, noE := k.tagged h.noE h.tno, nuE := k.tagged h.nuE h.tnu, lmE := k.tagged h.lmE h.tlm, mkE := k.tagged h.mkE h.tmk, hnE := k.tagged h.hnE h.thn, faE := k.tagged h.faE h.tfa, lrE := ⟨dl, k.tagged el h.tlr⟩, lrfE := k.tagged h.lrfE h.tlf
    root := ⟨h.root.1.kpu k, h.root.2⟩
    lgs := fun x hx => ⟨(h.lgs x hx).1.kpu k, (h.lgs x hx).2⟩
    hds := fun i x hx => (h.hds i x hx).kpu k
    live := fun b t e => by
      obtain ⟨o, a, s⟩ := h.live b t e
      exact ⟨o, k.tagged a e, s⟩ }
/-! ### a logger is put in its place: what stays -/
theorem put_keys {Y : YD} {k : Str} {r : LgR} : (Y.putLg k r).lgs.map (·.1) = Y.lgs.map (·.1) := by
  by_cases e : k = ""
  · subst e
    rw [put_root]
  · rw [put_ne e]
    show (Y.lgs.map _).map _ = _
    rw [List.map_map]
    refine List.map_congr_left fun x _ => ?_
    show (if x.1 = k then (k, r) else x).1 = x.1
    by_cases z : x.1 = k
    · rw [if_pos z, z]
    · rw [if_neg z]
theorem put_mem {Y : YD} {k : Str} {r : LgR} {x : Str × LgR} (h : x ∈ (Y.putLg k r).lgs) : (k ≠ "" ∧ x = (k, r)) ∨ (x ∈ Y.lgs ∧ (k ≠ "" → x.1 ≠ k)) := by
  by_cases e : k = ""
  · subst e
    rw [put_root] at h
    exact .inr ⟨h, fun z => absurd rfl z⟩
  · rw [put_ne e] at h
    obtain ⟨x0, hx0, q⟩ := List.mem_map.mp (show x ∈ Y.lgs.map _ from h)
    by_cases z : x0.1 = k
    · rw [if_pos z] at q
      exact .inl ⟨e, q.symm⟩
    · rw [if_neg z] at q
      rw [← q]
      exact .inr ⟨hx0, fun _ => z⟩
theorem put_rt {Y : YD} {k : Str} {r : LgR} : (Y.putLg k r).root = if k = "" then r else Y.root := by
  by_cases e : k = ""
  · subst e
    rw [put_root, if_pos rfl]
  · rw [put_ne e, if_neg e]
    rfl
theorem put_rows {Y : YD} {k : Str} {r r0 : LgR} (nd : (Y.lgs.map (·.1)).Nodup) (h : Y.lgAt k = some r0) (ha : r.a = r0.a) : (Y.putLg k r).rows = Y.rows := by
  by_cases e : k = ""
  · subst e
    rw [put_root]
    rfl
  · rw [put_ne e]
    rw [at_ne e] at h
    unfold YD.setLg YD.rows
    show (Y.lgs.map _).map _ = _
    rw [List.map_map]
    refine List.map_congr_left fun x hx => ?_
    show ((if x.1 = k then (k, r) else x).1, (if x.1 = k then (k, r) else x).2.a) = (x.1, x.2.a)
    by_cases z : x.1 = k
    · have m := mem_lookup (k := x.1) (v := x.2) nd hx
      rw [z, h] at m
      rw [if_pos z, z, ha, Option.some.inj m]
    · rw [if_neg z]
theorem put_rta {Y : YD} {k : Str} {r r0 : LgR} (h : Y.lgAt k = some r0) (ha : r.a = r0.a) : (Y.putLg k r).root.a = Y.root.a := by
  rw [put_rt]
  by_cases e : k = ""
  · subst e
    rw [at_root] at h
    rw [if_pos rfl, ha, Option.some.inj h]
  · rw [if_neg e]
/-! ### what a yard made of a plan is -/
structure LgFit (hds : List HdR) (r : LgR) (row : RP) : Prop where
  level : r.level = row.level
  prop : r.prop = row.prop
  dis : r.dis = row.disabled
  fs : r.fs.map FlR.nm = row.filters.map some
  hs : r.hs.map some = row.handlers.map fun i => (hds[i]?).map (·.a)
def putN (ns : List (Key × V)) (x : Int × Str) : List (Key × V) := putK ns (.inl x.1) (.str x.2)
def putU (us : List (Key × V)) (x : Int × Str) : List (Key × V) := putK us (kS x.2) (.int x.1)
structure YFit (Y : YD) (pl : Pl) (ks : List PySem.Str) : Prop where
  bar : Y.bar = pl.bar
  names : Y.names = pl.words.foldl putN kvNames
  numbers : Y.numbers = pl.words.foldl putU kvNumbers
  mkx : Y.mkx = []
  hds : Paired HdFit Y.hds pl.handlers
  rootP : Y.root.par = .non
  root : ∃ row, (("" : Str), row) ∈ pl.loggers ∧ LgFit Y.hds Y.root row
  perm : (ks : List Str).Perm (pl.loggers.map (·.1))
  sorted : sortedS ks = true
  keys : Y.lgs.map (·.1) = (ks.filter fun z : Str => decide (z ≠ ("" : Str)))
  lgs : ∀ x ∈ Y.lgs, x.2.par = .ref (parentA Y.rows Y.root.a x.1) ∧ ∃ row, (x.1, row) ∈ pl.loggers ∧ LgFit Y.hds x.2 row
def wY (Y : YD) (ws : List (Int × Str)) : YD := { Y with names := ws.foldl putN Y.names, numbers := ws.foldl putU Y.numbers }
theorem fold_putN_len : ∀ (ws : List (Int × Str)) (ns : List (Key × V)), (ws.foldl putN ns).length ≤ ns.length + ws.length
  | [], ns => Nat.le_refl _
  | x :: ws, ns => by
    rw [List.foldl_cons, List.length_cons]
    have h1 := fold_putN_len ws (putN ns x)
    have h2 := length_putK ns (.inl x.1) (.str x.2)
    have h3 : (putN ns x).length ≤ ns.length + 1 := h2
    omega
theorem fold_putU_len : ∀ (ws : List (Int × Str)) (ns : List (Key × V)), (ws.foldl putU ns).length ≤ ns.length + ws.length
  | [], ns => Nat.le_refl _
  | x :: ws, ns => by
    rw [List.foldl_cons, List.length_cons]
    have h1 := fold_putU_len ws (putU ns x)
    have h2 := length_putK ns (kS x.2) (.int x.1)
    have h3 : (putU ns x).length ≤ ns.length + 1 := h2
    omega
theorem yd_lk2 (ck : Int) (st fr no nu : Addr) (bar : Int) (lm mk hn fa rt lr : Addr) : lk (ydF ck st fr no nu bar lm mk hn fa rt lr) "add_level_name" = none ∧ lk (ydF ck st fr no nu bar lm mk hn fa rt lr) "getLogger" = none ∧ lk (ydF ck st fr no nu bar lm mk hn fa rt lr) "disable" = none ∧ lk (ydF ck st fr no nu bar lm mk hn fa rt lr) "loggers" = none :=
  ⟨by kernel_rfl, by kernel_rfl, by kernel_rfl, by kernel_rfl⟩
theorem vk_words (hs ws lg : Addr) (b : Int) : valV (planK hs ws lg b) (kS "words") = some (.ref ws) := by kernel_rfl
theorem vk_handlers (hs ws lg : Addr) (b : Int) : valV (planK hs ws lg b) (kS "handlers") = some (.ref hs) := by kernel_rfl
theorem vk_loggers (hs ws lg : Addr) (b : Int) : valV (planK hs ws lg b) (kS "loggers") = some (.ref lg) := by kernel_rfl
theorem vk_bar (hs ws lg : Addr) (b : Int) : valV (planK hs ws lg b) (kS "bar") = some (.int b) := by kernel_rfl
theorem vr_level (r : RP) (hl fl : Addr) : valV (rpK r hl fl) (kS "level") = some (.int r.level) := by kernel_rfl
theorem vr_prop (r : RP) (hl fl : Addr) : valV (rpK r hl fl) (kS "propagate") = some (.bl r.prop) := by kernel_rfl
theorem vr_handlers (r : RP) (hl fl : Addr) : valV (rpK r hl fl) (kS "handlers") = some (.ref hl) := by kernel_rfl
theorem vr_filters (r : RP) (hl fl : Addr) : valV (rpK r hl fl) (kS "filters") = some (.ref fl) := by kernel_rfl
theorem vr_dis (r : RP) (hl fl : Addr) : valV (rpK r hl fl) (kS "disabled") = some (.bl r.disabled) := by kernel_rfl
theorem row_at {N : Addr → Prop} {H : Hp} {nm : Str} : ∀ {rows : List (Str × Addr)} {ls : List (Str × RP)}, Paired (RowP N H) rows ls → nm ∈ ls.map (·.1) → ∃ ra row, rows.lookup nm = some ra ∧ (nm, row) ∈ ls ∧ RowAt N H ra row
  | _, _, .nil, h => nomatch h
  | (a, b) :: rows, (c, d) :: ls, .cons r t, h => by
    obtain ⟨e, q⟩ := r
    have e' : a = c := e
    rw [List.lookup_cons]
    cases z : (nm == a) with
    | true =>
      have w : nm = a := eq_of_beq z
      exact ⟨b, d, rfl, by rw [w, e']; exact List.mem_cons_self .., q⟩
    | false =>
      rcases List.mem_cons.mp h with w | w
      · have w' : nm = c := w
        rw [w', ← e', beq_self_eq_true] at z
        cases z
      · obtain ⟨ra, row, h1, h2, h3⟩ := row_at t w
        exact ⟨ra, row, h1, List.mem_cons_of_mem _ h2, h3⟩
theorem rows_keysP {N : Addr → Prop} {H : Hp} : ∀ {rows : List (Str × Addr)} {ls : List (Str × RP)}, Paired (RowP N H) rows ls → rows.map (·.1) = ls.map (·.1)
  | _, _, .nil => rfl
  | _, _, .cons r t => by rw [List.map_cons, List.map_cons, rows_keysP t, r.1]
end Ry
namespace Ry
open PySem PySem.Spec PyProof.Rows L2 He RyH
open C8 (pss_cut tCut Cal Met Mak pe_c pe_mk pe_mt pe_mt0 pe_gc)
/-! ### the yard of a plan -/
def spYard (K : PySem.W.Frag) : Sp := fun vs H Q _ => ∃ (p : Addr) (pl : Pl) (N : Addr → Prop) (lo ha : Nat), vs = [.ref p] ∧ PlanAt N H p pl ∧ PlOk lo ha pl ∧ lo ≤ 20 ∧ ha ≤ 20 ∧
  ∀ tg Y ks H', YardW K H' tg Y → YFit Y pl ks → FrK H H' tg → Q (.ref Y.y) H'
/-- behind the turn for nm: what is told of the others -/
structure YTurn (Y2 Y : YD) (pl : Pl) (ys : List Str) (n i : Nat) (nm : Str) : Prop where
  y : Y.y = Y2.y
  bar : Y.bar = Y2.bar
  names : Y.names = Y2.names
  numbers : Y.numbers = Y2.numbers
  hds : Y.hds = Y2.hds
  mkx : Y.mkx = Y2.mkx
  rootP : Y.root.par = .non
  keys : Y.lgs.map (·.1) = ((ys.take n).filter fun z : Str => decide (z ≠ ("" : Str)))
  lgs : ∀ x ∈ Y.lgs, x.2.par = .ref (parentA Y.rows Y.root.a x.1) ∧ (x.1 ≠ nm → ∃ row, (x.1, row) ∈ pl.loggers ∧ LgFit Y.hds x.2 row)
  rt0 : (("" : Str) ∉ ys.take n) → Y.root.fs = [] ∧ Y.root.hs = []
  rt1 : (("" : Str) ∈ ys.take i) → ∃ row, (("" : Str), row) ∈ pl.loggers ∧ LgFit Y.hds Y.root row
theorem pe_mk0 {X : Cx} {k j : Nat} {C : Addr} {x : Str} {sp : Sp} {dvs : List V} {p pos : Pos} (c : Mak X.prog X.w X.K X.mg X.base k x C sp dvs) (hr : Room j X.A) (hk : k + 1 ≤ j) (hg : Gl X x)
    (hdb : (x == ("__debug__" : Str)) = false := by decide) : PE X (.Call (.Name x p) [] [] pos) (tMake C sp dvs C8.E0 tNil) := by
  obtain ⟨f, fd, ps, ds, M, F, hm, b, d⟩ := c.ex
  exact pe_make0 M F (hr.mono hk) hg hm b d C8.pass0 hdb
section
variable {P : Program} {w : World} {K : PySem.W.Frag} {mg : Str → Option Value} {base : Heap}
theorem sc_law_yard : FnScope ["_law_plan_here", "_law_yard_here", "_law_level_here", "_law_word", "_law_handlers", "_law_name", "_law_logger", "_law_row", "_law_one", "_law_at"] ["_law_plan_here"] (defScope s_law_yard) := ⟨rfl, rfl, rfl, by decide +kernel, rfl, by decide +kernel, by decide +kernel⟩
theorem cal_law_yard (T : Txt w K mg) : Cal P w K mg base 8 "_law_yard" (spYard K) [] := by
  obtain ⟨fd, F⟩ := T.df_law_yard
  have c_mk_Yard := mk_Yard (P := P) (base := base) T
  have c_Yard_add_level_name := met_Yard_add_level_name (P := P) (base := base) T
  have c_law_handler := cal_law_handler (P := P) (base := base) T
  have c_Yard_getLogger := met_Yard_getLogger (P := P) (base := base) T
  have c_Logger_setLevel := met_Logger_setLevel (P := P) (base := base) T
  have c_Logger_setPropagate := met_Logger_setPropagate (P := P) (base := base) T
  have c_Logger_setDisabled := met_Logger_setDisabled (P := P) (base := base) T
  have c_Logger_addFilter := met_Logger_addFilter (P := P) (base := base) T
  have c_mk_Filter := mk_Filter (P := P) (base := base) T
  have c_Logger_addHandler := met_Logger_addHandler (P := P) (base := base) T
  have c_Yard_disable := met_Yard_disable (P := P) (base := base) T
  refine ⟨_, fd, ["_law_plan_here"], [], F.ok sc_law_yard (fun vs H Q E h => ?_) (fun cdv A outer s H vs Q E hr h => ?_), T.m_law_yard, F.kp, F.bindsN (fun _ _ _ _ _ _ us hl => match us, hl with | [_], _ => rfl), .nil⟩
  · obtain ⟨_, _, _, _, _, rfl, _⟩ := h
    rfl
  · obtain ⟨p, pl, N, lo, ha, rfl, hP, hok, hlo, hha, k⟩ := h
    refine ⟨_, PSs.nox (pss_cons (ps_set (i := 1) sc_law_yard.nd rfl (Or.inr rfl) (pe_mk0 c_mk_Yard hr (by decide) (by rfl)))
      (pss_cons (ps_for PassesOwn.never rfl (pi_list (pe_dget (hu_of hr) (pv 0) pe_str (fun _ _ => rfl))) (pg_tup rfl (pgs_cons (pg_name (i := 2) sc_law_yard.nd rfl (Or.inl rfl)) (pgs_cons (pg_name (i := 3) sc_law_yard.nd rfl (Or.inl rfl)) pgs_nil)))
        (pss_one (ps_expr (pe_mt c_Yard_add_level_name hr (by decide) (pv 1) (pa_cons (pv 2) (pa_cons (pv 3) pa_nil))))))
      (pss_cons (ps_setLc (i := 4) (own := [("_law_one", 8)]) rfl sc_law_yard.nd rfl rfl (sw_true rfl rfl rfl (by decide +kernel)) (pi_list (pe_dget (hu_of hr) (pv 0) pe_str (fun _ _ => rfl))) (blkOk_by (N := ["_law_plan_here", "_law_yard_here", "_law_level_here", "_law_word", "_law_handlers", "_law_name", "_law_logger", "_law_row", "_law_one", "_law_at"]) (sc := defScope s_law_yard) (own := [("_law_one", 8)]) (by decide +kernel)) (fun _ _ _ _ _ => pg_name (i := 8) sc_law_yard.nd rfl (Or.inl rfl)) (fun _ _ _ _ _ => pts_nil) (fun _ _ _ _ _ => (pe_c c_law_handler hr (by decide) (by rfl) (pa_cons (pv 1) (pa_cons (pv 8) pa_nil)))))
      (pss_cons (ps_for PassesOwn.never rfl (pi_list (pe_callB (call_sortedD rfl) (by rfl) T.f_sorted (by decide +kernel) (pa_cons (pe_dget (hu_of hr) (pv 0) pe_str (fun _ _ => rfl)) pa_nil))) (pg_name (i := 5) sc_law_yard.nd rfl (Or.inl rfl))
        (pss_cons (ps_par (i := 6) (j := 7) (by rfl) sc_law_yard.nd rfl rfl (by decide) rfl rfl (pa_cons (RyT.pe_cutE (pe_mt c_Yard_getLogger hr (by decide) (pv 1) (pa_cons (pv 5) pa_nil))) (pa_cons (pe_dget (hu_of hr) (pe_dget (hu_of hr) (pv 0) pe_str (fun _ _ => rfl)) (pv 5) (fun _ _ => rfl)) pa_nil)) (by rfl))
        (pss_cons (ps_expr (pe_mt c_Logger_setLevel hr (by decide) (pv 6) (pa_cons (pe_dget (hu_of hr) (pv 7) pe_str (fun _ _ => rfl)) pa_nil)))
        (pss_cons (ps_expr (pe_mt c_Logger_setPropagate hr (by decide) (pv 6) (pa_cons (pe_dget (hu_of hr) (pv 7) pe_str (fun _ _ => rfl)) pa_nil)))
        (pss_cons (ps_expr (pe_mt c_Logger_setDisabled hr (by decide) (pv 6) (pa_cons (pe_dget (hu_of hr) (pv 7) pe_str (fun _ _ => rfl)) pa_nil)))
        (pss_cons (ps_for PassesOwn.never rfl (pi_list (pe_dget (hu_of hr) (pv 7) pe_str (fun _ _ => rfl))) (pg_name (i := 8) sc_law_yard.nd rfl (Or.inl rfl))
          (pss_one (ps_expr (pe_mt c_Logger_addFilter hr (by decide) (pv 6) (pa_cons (pe_mk c_mk_Filter hr (by decide) (by rfl) (pa_cons (pv 8) pa_nil)) pa_nil)))))
        (pss_one (ps_for PassesOwn.never rfl (pi_list (pe_dget (hu_of hr) (pv 7) pe_str (fun _ _ => rfl))) (pg_name (i := 9) sc_law_yard.nd rfl (Or.inl rfl))
          (pss_one (ps_expr (pe_mt c_Logger_addHandler hr (by decide) (pv 6) (pa_cons (pe_ix ix_list (pv 4) (pv 9) (fun _ _ => rfl)) pa_nil))))))))))))
      (pss_cons (ps_expr (pe_mt c_Yard_disable hr (by decide) (pv 1) (pa_cons (pe_dget (hu_of hr) (pv 0) pe_str (fun _ _ => rfl)) pa_nil)))
      (pss_one (ps_ret (pv 1)))))))), ?_⟩
    obtain ⟨hs, ws, lg, hps, wvs, rows, W⟩ := hP
    refine fun x dx hx hdx hne => ?_
    refine ⟨x, dx, rfl, upd_same, fun st fr no nu lm mk hn fa rt lr rf rh lrf H1 nd hfree hnew kk => ⟨rfl, ?_⟩⟩
    have hfr : ∀ b ∈ [mk, lrf, lr, rh, rf, rt, fa, hn, lm, nu, no, fr, st], H b = none := fun b hb => was_none (was_none (hfree b hb))
    have hbx : ∀ b ∈ [mk, lrf, lr, rh, rf, rt, fa, hn, lm, nu, no, fr, st], b ≠ x := fun b hb z => by
      have q := hfree b hb
      rw [z, upd_same] at q
      cases q
    have s1 : Same H H1 := fun b o e => kk b o (by rw [upd_ne (ne_of_none e hx), upd_ne (ne_of_none e hdx)]; exact e) (ne_of_none e hx)
    have YW1 := YardW.new hnew nd hbx
    have FK1 := FrK.new s1 hfr hx
    obtain ⟨tg1, Y0, ey0, yw0, fk0, yb0, yn0, yu0, yl0, yh0, yp0, yf0, ys0, ymx0⟩ : ∃ tg Y, x = YD.y Y ∧ YardW K H1 tg Y ∧ FrK H H1 tg ∧ Y.bar = 0 ∧ Y.names = kvNames ∧ Y.numbers = kvNumbers ∧ Y.lgs = [] ∧ Y.hds = [] ∧ Y.root.par = .non ∧ Y.root.fs = [] ∧ Y.root.hs = [] ∧ Y.mkx = [] := ⟨_, _, rfl, YW1, FK1, rfl, rfl, rfl, rfl, rfl, rfl, rfl, rfl, rfl⟩
    clear YW1 FK1 hnew hfree hfr hbx nd kk
    subst ey0
    have Wat := W.at_
    -- words
    have eP1 := (fk0 _ _ Wat).1
    refine ⟨_, rfl, p, _, rfl, dget eP1 (vk_words hs ws lg pl.bar), ?_⟩
    refine ⟨ws, rfl, ⟨_, SqL.of (fk0 _ _ W.wsE).1⟩, ?_⟩
    have hwl : wvs.length = pl.words.length := Paired.length W.wsP
    have hw2 := hok.fewW
    refine for_list (xs := wvs) (fun i σ' H' => ∃ o1 o2, σ' = [some (.ref p), some (.ref Y0.y), o1, o2, none, none, none, none, none, none] ∧ YardW K H' tg1 (wY Y0 (pl.words.take i)) ∧ FrK H H' tg1) ⟨_, _, rfl, yw0, fk0⟩ (fun i σ' H' _ ⟨_, _, _, _, f⟩ => SqL.of (f _ _ W.wsE).1) ?_ ?_
    · rintro i v σ' H' hv ⟨o1, o2, rfl, yw, fk⟩
      obtain ⟨wd, hwd, t, rfl, nt, et⟩ := Paired.nth W.wsP hv
      refine ⟨t, _, rfl, SqT.of (fk _ _ et).1, rfl, ?_⟩
      refine ⟨_, _, rfl, _, _, rfl, rfl, ?_⟩
      obtain ⟨dy, ey⟩ := yw.yE
      refine ⟨_, rfl, Y0.y, dy, _, rfl, ey, (yd_lk2 ..).1, _, rfl, _, rfl, ?_⟩
      have l1 := fold_putN_len (pl.words.take i) Y0.names
      have l2 := fold_putU_len (pl.words.take i) Y0.numbers
      rw [List.length_take] at l1 l2
      have l3 : Y0.names.length = 6 := by rw [yn0]; rfl
      have l4 : Y0.numbers.length = 8 := by rw [yu0]; rfl
      have hne2 : (wY Y0 (pl.words.take i)).no ≠ (wY Y0 (pl.words.take i)).nu := fun z => by
        have z1 := yw.tno
        rw [z, yw.tnu] at z1
        cases z1
      refine ⟨Y0.y, _, _, _, wd.1, wd.2, _, _, rfl, ⟨dy, ey⟩, (yd_lk ..).2.2.2.1, (yd_lk ..).2.2.2.2.1, yw.noE, yw.nuE, hne2, ?_, ?_, ?_⟩
      · show ((pl.words.take i).foldl putN Y0.names).length < 1000
        omega
      · show ((pl.words.take i).foldl putU Y0.numbers).length < 1000
        omega
      · have z := yw.nmSet (putN ((pl.words.take i).foldl putN Y0.names) wd) (putU ((pl.words.take i).foldl putU Y0.numbers) wd)
        have zk := fk.kp (nmSet_kp yw (putN ((pl.words.take i).foldl putN Y0.names) wd) (putU ((pl.words.take i).foldl putU Y0.numbers) wd))
        refine ⟨_, _, rfl, ?_, zk⟩
        have e : wY Y0 (pl.words.take (i + 1)) = { wY Y0 (pl.words.take i) with names := putN ((pl.words.take i).foldl putN Y0.names) wd, numbers := putU ((pl.words.take i).foldl putU Y0.numbers) wd } := by
          unfold wY
          rw [take_nth hwd, List.foldl_append, List.foldl_append]
          rfl
        rw [e]
        exact z
    rintro σ' H2 ⟨o1, o2, rfl, yw2, fk2⟩
    rw [hwl, List.take_length] at yw2
    have n2 : (wY Y0 pl.words).names = pl.words.foldl putN kvNames := by rw [← yn0]; rfl
    have u2 : (wY Y0 pl.words).numbers = pl.words.foldl putU kvNumbers := by rw [← yu0]; rfl
    obtain ⟨Y2, e2⟩ : ∃ Y2, Y2 = wY Y0 pl.words := ⟨_, rfl⟩
    have ey2 : Y0.y = Y2.y := by rw [e2]; rfl
    have yb2 : Y2.bar = 0 := by rw [e2]; exact yb0
    have yl2 : Y2.lgs = [] := by rw [e2]; exact yl0
    have yh2 : Y2.hds = [] := by rw [e2]; exact yh0
    have yp2 : Y2.root.par = .non := by rw [e2]; exact yp0
    have yf2 : Y2.root.fs = [] ∧ Y2.root.hs = [] := by rw [e2]; exact ⟨yf0, ys0⟩
    have ymx2 : Y2.mkx = [] := by rw [e2]; exact ymx0
    rw [← e2] at yw2 n2 u2
    rw [ey2]
    clear e2
    -- handlers
    refine ⟨_, rfl, p, _, rfl, dget (fk2 _ _ Wat).1 (vk_handlers hs ws lg pl.bar), ?_⟩
    refine ⟨hs, rfl, ⟨_, SqL.of (fk2 _ _ W.hsE).1⟩, ?_⟩
    have hhl : hps.length = pl.handlers.length := Paired.length W.hsP
    have hfew := hok.fewH
    intro D hD
    refine lc_list (xs := hps.map V.ref) (fun i H' => ∃ tg Y, YardW K H' tg Y ∧ Y = { Y2 with hds := Y.hds } ∧ FrK H H' tg ∧ tg D = none ∧ H' D = some (.lst (Y.hds.map fun h => V.ref h.a)) ∧ Paired HdFit Y.hds (pl.handlers.take i)) ?_ (fun i H' _ ⟨_, _, _, _, f, _⟩ => SqL.of (f _ _ W.hsE).1) ?_ ?_
    · refine ⟨tg1, Y2, yw2.same (Same.nw hD), rfl, fk2.same (Same.nw hD), yw2.untag hD, ?_, ?_⟩
      · rw [upd_same, yh2]
        rfl
      · rw [yh2]
        exact .nil
    · rintro i v H' hv ⟨tg, Y, yw, eY, fk, tD, eD, pf⟩
      rw [List.getElem?_map] at hv
      obtain ⟨hp, hhp, rfl⟩ := Option.map_eq_some_iff.mp hv
      obtain ⟨h, hh, hpa⟩ := Paired.nth W.hsP hhp
      have hpN : HPlanAt (fun b => H b ≠ none) H' hp h := (hpa.to (N' := fun b => H b ≠ none) fun b _ z => z).kp (Kp.same (M := fun _ => False) fk.sm) fun b hb => ⟨hb, fun z => z⟩
      have hlen : Y.hds.length = min i pl.handlers.length := by
        rw [Paired.length pf, List.length_take]
      have hyy : Y2.y = Y.y := (congrArg YD.y eY).symm
      refine ⟨rfl, ?_⟩
      refine ⟨_, rfl, _, rfl, ?_⟩
      refine ⟨hp, h, fun b => H b ≠ none, tg, Y, by rw [hyy]; rfl, yw, hpN, fun b hb => ?_, (hok.handlers h (List.mem_of_getElem? hh)).1, (hok.handlers h (List.mem_of_getElem? hh)).2, by omega, (congrArg YD.mkx eY).trans ymx2, fun r tg' H4 hfit hn => ?_⟩
      · cases q : H b with
        | none => exact absurd q hb
        | some o => exact (fk b o q).2
      · have eD4 : H4 D = some (.lst (Y.hds.map fun h => V.ref h.a)) := hn.tr tD eD
        have tD4 : tg' D = none := (hn.ag _ _ eD).trans tD
        refine ⟨_, eD4, by rw [List.length_map, sizeLine_eq]; omega, tg', { Y with hds := Y.hds ++ [r] }, hn.yw.kpu (KpU.lst tD4 eD4), ?_, ?_, tD4, ?_, ?_⟩
        · have z := congrArg (fun z : YD => ({ z with hds := Y.hds ++ [r] } : YD)) eY
          exact z
        · refine fun b o e => ⟨?_, ((fk.ag hn.ag) b o e).2⟩
          have hbD : b ≠ D := fun z => by
            have q := fk2.sm _ _ e
            rw [z, hD] at q
            cases q
          rw [upd_ne hbD]
          exact hn.tr (fk b o e).2 (fk b o e).1
        · rw [upd_same]
          show _ = some (HO.lst (List.map _ (Y.hds ++ [r])))
          rw [List.map_append]
          rfl
        · rw [take_nth hh]
          exact Paired.snoc hfit pf
    rintro H3 ⟨tg3, Y3, yw3, eY3, fk3, tD, eD, pf3⟩
    rw [List.length_map, hhl, List.take_length] at pf3
    have hyy3 : Y2.y = Y3.y := (congrArg YD.y eY3).symm
    rw [hyy3]
    have b3 : Y3.bar = 0 := (congrArg YD.bar eY3).trans yb2
    have n3 : Y3.names = pl.words.foldl putN kvNames := (congrArg YD.names eY3).trans n2
    have u3 : Y3.numbers = pl.words.foldl putU kvNumbers := (congrArg YD.numbers eY3).trans u2
    have l3 : Y3.lgs = [] := (congrArg YD.lgs eY3).trans yl2
    have mx3 : Y3.mkx = [] := (congrArg YD.mkx eY3).trans ymx2
    have r3 : Y3.root = Y2.root := by
      have z := congrArg YD.root eY3
      exact z
    have rp3 : Y3.root.par = .non := by rw [r3]; exact yp2
    have rf3 : Y3.root.fs = [] ∧ Y3.root.hs = [] := by rw [r3]; exact yf2
    clear eY3 r3 yw2
    have hD0 : H D = none := Same.was fk2.sm hD
    clear fk2
    -- loggers
    have hkeys := rows_keysP W.lgP
    refine ⟨_, rfl, p, _, rfl, dget (fk3 _ _ Wat).1 (vk_loggers hs ws lg pl.bar), ?_⟩
    have hfewL := hok.fewL
    refine ⟨lg, _, rows.map (·.1), rfl, .inl (fk3 _ _ W.lgE).1, by rw [List.map_map, List.map_map]; rfl, by rw [hkeys, List.length_map]; omega, fun ys L hperm hsrt hL => ?_⟩
    rw [hkeys] at hperm
    have hynd : ys.Nodup := hperm.symm.nodup hok.nd
    refine ⟨L, rfl, ⟨_, SqL.of upd_same⟩, ?_⟩
    have fk4 : FrK (L2.upd (L2.upd H D (.lst (Y3.hds.map fun h => V.ref h.a))) L (.lst (ys.map V.str))) (L2.upd H3 L (.lst (ys.map V.str))) tg3 :=
      ((fk3.add eD tD).same (Same.nw hL)).add upd_same (yw3.untag hL)
    have yw4 := yw3.same (Same.nw (o := .lst (ys.map V.str)) hL)
    have sHG : Same H (L2.upd (L2.upd H D (.lst (Y3.hds.map fun h => V.ref h.a))) L (.lst (ys.map V.str))) := fun b o e => by
      have e3 := (fk3 _ _ e).1
      rw [upd_ne (ne_of_none e3 hL), upd_ne (fun z => by rw [z, hD0] at e; cases e)]
      exact e
    have gD : L2.upd (L2.upd H D (.lst (Y3.hds.map fun h => V.ref h.a))) L (.lst (ys.map V.str)) D = some (.lst (Y3.hds.map fun h => V.ref h.a)) := by rw [upd_ne (ne_of_none eD hL), upd_same]
    have gL : L2.upd (L2.upd H D (.lst (Y3.hds.map fun h => V.ref h.a))) L (.lst (ys.map V.str)) L = some (.lst (ys.map V.str)) := upd_same
    generalize L2.upd (L2.upd H D (.lst (Y3.hds.map fun h => V.ref h.a))) L (.lst (ys.map V.str)) = G at fk4 sHG gD gL
    generalize L2.upd H3 L (.lst (ys.map V.str)) = H4 at fk4 yw4 ⊢
    refine for_list (xs := ys.map V.str) (fun i σ' H' => ∃ tg Y o5 o6 o7 o8 o9, σ' = [some (.ref p), some (.ref Y3.y), o1, o2, some (.ref D), o5, o6, o7, o8, o9] ∧ YardW K H' tg Y ∧ FrK G H' tg ∧ YTurn Y3 Y pl ys i i "" ∧ ∀ x ∈ Y.lgs, ∃ row, (x.1, row) ∈ pl.loggers ∧ LgFit Y.hds x.2 row) ?_ (fun i σ' H' _ ⟨_, _, _, _, _, _, _, _, _, f, _⟩ => SqL.of (f _ _ gL).1) ?_ ?_
    · refine ⟨tg3, Y3, _, _, _, _, _, rfl, yw4, fk4, ⟨rfl, rfl, rfl, rfl, rfl, rfl, rp3, (by rw [l3]; rfl), (fun x hx => by rw [l3] at hx; cases hx), (fun _ => rf3), (fun z => by cases z)⟩, (fun x hx => by rw [l3] at hx; cases hx)⟩
    · rintro i v σ' H' hv ⟨tg, Y, o5, o6, o7, o8, o9, rfl, yw, fk, ht, hall⟩
      rw [List.getElem?_map] at hv
      obtain ⟨nm, hnm, rfl⟩ := Option.map_eq_some_iff.mp hv
      have hyy : Y.y = Y3.y := ht.y
      have hnmk : nm ∈ pl.loggers.map (·.1) := hperm.mem_iff.mp (List.mem_of_getElem? hnm)
      have htk : ys.take (i + 1) = ys.take i ++ [nm] := take_nth hnm
      have hnt : nm ∉ ys.take i := fun z => by
        obtain ⟨j, hj, e⟩ := List.getElem_of_mem z
        rw [List.length_take] at hj
        rw [List.getElem_take] at e
        have q := nodup_inj hynd (List.getElem?_eq_getElem (show j < ys.length by omega)) (by rw [e]; exact hnm)
        omega
      have hin : nm ∈ ys.take (i + 1) := by rw [htk]; exact List.mem_append_right _ (List.mem_singleton.mpr rfl)
      refine ⟨fun v H2 => ∃ tg2 Y2 r0, v = .ref r0.a ∧ YardW K H2 tg2 Y2 ∧ FrK G H2 tg2 ∧ Y2.lgAt nm = some r0 ∧ r0.fs = [] ∧ r0.hs = [] ∧ YTurn Y3 Y2 pl ys (i + 1) i nm, ?_, ?_⟩
      · obtain ⟨dy, ey⟩ := yw.yE
        refine ⟨_, rfl, Y3.y, dy, _, rfl, by rw [← hyy]; exact ey, (yd_lk2 ..).2.1, _, rfl, ?_⟩
        refine ⟨Y.y, Y.lm, Y.root.a, _, Y.rows, nm, by rw [hyy]; rfl, yw.ymap, ?_⟩
        by_cases en : nm = ""
        · obtain ⟨q1, q2⟩ := ht.rt0 (by rw [← en]; exact hnt)
          refine .inl ⟨en, tg, Y, Y.root, rfl, yw, fk, by rw [en]; exact at_root, q1, q2, ⟨ht.y, ht.bar, ht.names, ht.numbers, ht.hds, ht.mkx, ht.rootP, ?_, fun x hx => ⟨(ht.lgs x hx).1, fun _ => hall x hx⟩, fun z => absurd (by rw [← en]; exact hin) z, ht.rt1⟩⟩
          rw [ht.keys, htk, List.filter_append, en]
          simp
        · have hmenu : nm ∈ logMenu := by
            obtain ⟨x, hx, e⟩ := List.mem_map.mp hnmk
            have q := (hok.loggers x hx).1
            rw [e] at q
            exact (List.mem_cons.mp q).resolve_left en
          have hnk : nm ∉ Y.lgs.map (·.1) := by
            rw [ht.keys]
            exact fun z => hnt (List.mem_filter.mp z).1
          have hlen : Y.lgs.length ≤ 90 := by
            have z := congrArg List.length ht.keys
            rw [List.length_map] at z
            have z1 := List.length_filter_le (fun z : Str => decide (z ≠ ("" : Str))) (ys.take i)
            have z2 := hperm.length_eq
            rw [List.length_map] at z2
            rw [List.length_take] at z1
            omega
          refine .inr (.inr ⟨hmenu, by rw [rows_keys]; exact hnk, yw.lgsW hlen, fun a fl hl dx H2 ha hf hh hfh haf hah elm ea ef eh all kk => ?_⟩)
          obtain ⟨yw2, ag, kp⟩ := yw.lgNew hmenu hnk ha hf hh hfh haf hah elm ea ef eh all kk
          refine ⟨_, Y.lgNew nm a fl hl, ⟨a, fl, hl, nm, 0, true, false, [], [], .ref (parentA (Y.rows ++ [(nm, a)]) Y.root.a nm)⟩, rfl, yw2, fun b o e => ⟨((fk.kp kp) b o e).1, ((fk.ag ag) b o e).2⟩, ?_, rfl, rfl, ?_⟩
          · rw [at_ne en]
            exact mem_lookup yw2.nd (List.mem_append_right _ (List.mem_singleton.mpr rfl))
          · refine ⟨ht.y, ht.bar, ht.names, ht.numbers, ht.hds, ht.mkx, ht.rootP, ?_, fun x hx => ?_, fun z => ht.rt0 fun q => z (by rw [htk]; exact List.mem_append_left _ q), ht.rt1⟩
            · rw [lgNew_keys, ht.keys, htk, List.filter_append]
              simp [en]
            · rw [lgNew_rows]
              rcases List.mem_append.mp (show x ∈ Y.lgs.map _ ++ _ from hx) with z | z
              · obtain ⟨x0, hx0, rfl⟩ := List.mem_map.mp z
                refine ⟨rfl, fun _ => ?_⟩
                obtain ⟨row, h1, h2⟩ := hall x0 hx0
                exact ⟨row, h1, ⟨h2.level, h2.prop, h2.dis, h2.fs, h2.hs⟩⟩
              · rw [List.mem_singleton.mp z]
                exact ⟨rfl, fun z => absurd rfl z⟩
      rintro v H2 ⟨tg2, Y2, r0, rfl, yw2, fk2, e0, f0, h0, ht2⟩
      clear yw fk ht hall tg Y hyy
      obtain ⟨ra, row, hra, hrow, hRA⟩ := row_at W.lgP hnmk
      have hrok := (hok.loggers _ hrow).2
      obtain ⟨hl, fl, _, era, _, ehl, _, efl⟩ := hRA
      have Fg : ∀ {H' : Hp} {b : Addr} {o : HO}, FrK G H' tg2 → H b = some o → H' b = some o := fun f e => (f _ _ (sHG _ _ e)).1
      refine ⟨_, rfl, p, _, rfl, dget (Fg fk2 Wat) (vk_loggers hs ws lg pl.bar), _, rfl, lg, .ref ra, rfl, dget (Fg fk2 W.lgE) (by rw [valV_row, hra]; rfl), _, _, rfl, ?_⟩
      have ok2 := yw2.lgOk e0
      have yp2 : YardW K H2 tg2 (Y2.putLg nm r0) := by rw [put_self yw2.nd e0]; exact yw2
      have hh3 : Y2.hds = Y3.hds := ht2.hds
      -- setLevel
      obtain ⟨d2, a2⟩ := ok2.aE
      refine ⟨_, rfl, r0.a, d2, _, rfl, a2, (lgF_lk ..).1, _, rfl, ra, _, rfl, dget (Fg fk2 era) (vr_level row hl fl), ?_⟩
      refine ⟨r0.a, _, d2, Y2.y, _, _, row.level, rfl, a2, T.cl_Logger, T.no_Logger_yard, T.no_Logger_level, csz rfl, (lgF_lk ..).2.2.2.2.2.1, yw2.yE, (yd_lk ..).1, ?_⟩
      rw [lgF_level]
      have ok3 := ok2.setA (r' := { r0 with level := row.level }) (dx := d2) rfl rfl rfl rfl rfl
      obtain ⟨yp3, kt3⟩ := yp2.lgStep e0 ok3 rfl rfl rfl rfl (Kp.at (.inl rfl))
      have fk3 := fk2.kp kt3
      generalize L2.upd H2 r0.a _ = H3 at ok3 yp3 kt3 fk3 ⊢
      -- setPropagate
      obtain ⟨d3, a3⟩ := ok3.aE
      refine ⟨_, rfl, r0.a, d3, _, rfl, a3, (lgF_lk ..).2.1, _, rfl, ra, _, rfl, dget (Fg fk3 era) (vr_prop row hl fl), ?_⟩
      refine ⟨r0.a, _, d3, _, .bl row.prop, rfl, a3, T.cl_Logger, T.no_Logger_propagate, csz rfl, ?_⟩
      rw [lgF_prop]
      have ok4 := ok3.setA (r' := { r0 with level := row.level, prop := row.prop }) (dx := d3) rfl rfl rfl rfl rfl
      obtain ⟨yp4, kt4⟩ := yp3.lgStep e0 ok4 rfl rfl rfl rfl (Kp.at (.inl rfl))
      have fk4 := fk3.kp kt4
      generalize L2.upd H3 r0.a _ = H4 at ok4 yp4 kt4 fk4 ⊢
      -- setDisabled
      obtain ⟨d4, a4⟩ := ok4.aE
      refine ⟨_, rfl, r0.a, d4, _, rfl, a4, (lgF_lk ..).2.2.1, _, rfl, ra, _, rfl, dget (Fg fk4 era) (vr_dis row hl fl), ?_⟩
      refine ⟨r0.a, _, d4, _, .bl row.disabled, rfl, a4, T.cl_Logger, T.no_Logger_disabled, csz rfl, ?_⟩
      rw [lgF_dis]
      have ok5 := ok4.setA (r' := { r0 with level := row.level, prop := row.prop, dis := row.disabled }) (dx := d4) rfl rfl rfl rfl rfl
      obtain ⟨yp5, kt5⟩ := yp4.lgStep e0 ok5 rfl rfl rfl rfl (Kp.at (.inl rfl))
      have fk5 := fk4.kp kt5
      generalize L2.upd H4 r0.a _ = H5 at ok5 yp5 kt5 fk5 ⊢
      clear ok4 yp4 kt4 fk4 a4 ok3 yp3 kt3 fk3 a3 a2 kt5 yp2 ok2
      -- filters
      refine ⟨_, rfl, ra, _, rfl, dget (Fg fk5 era) (vr_filters row hl fl), ?_⟩
      refine ⟨fl, rfl, ⟨_, SqL.of (Fg fk5 efl)⟩, ?_⟩
      refine for_list (xs := row.filters.map V.str) (fun j σ' H' => ∃ o8 fs, σ' = [some (.ref p), some (.ref Y3.y), o1, o2, some (.ref D), some (.str nm), some (.ref r0.a), some (.ref ra), o8, o9] ∧ YardW K H' tg2 (Y2.putLg nm { r0 with level := row.level, prop := row.prop, dis := row.disabled, fs := fs }) ∧
        LgOk K H' tg2 Y2.y nm { r0 with level := row.level, prop := row.prop, dis := row.disabled, fs := fs } ∧ FrK G H' tg2 ∧ fs.map FlR.nm = (row.filters.take j).map some) ?_ (fun j σ' H' _ ⟨_, _, _, _, _, f, _⟩ => SqL.of (Fg f efl)) ?_ ?_
      · exact ⟨_, r0.fs, rfl, yp5, ok5, fk5, by rw [f0]; rfl⟩
      · rintro j v σ' H' hv ⟨o8', fs, rfl, yp, ok, fk, hfs⟩
        rw [List.getElem?_map] at hv
        obtain ⟨fn, hfn, rfl⟩ := Option.map_eq_some_iff.mp hv
        obtain ⟨d6, a6⟩ := ok.aE
        refine ⟨_, rfl, r0.a, d6, _, rfl, a6, (lgF_lk ..).2.2.2.1, _, rfl, fun q dq hq hdq hne => ?_⟩
        refine ⟨q, dq, fn, rfl, upd_same, rfl, ?_⟩
        rw [upd_upd]
        have hq' : L2.upd H' dq (.own q) q = none := by rw [upd_ne hne.symm]; exact hq
        have s6 : Same H' (L2.upd (L2.upd H' dq (.own q)) q (.ins (ga K "Filter") dq ([("name", .str fn)] : List (Str × V)))) := Same.tr (Same.nw hdq) (Same.nw hq')
        have yp6 := yp.same s6
        have ok6 := ok.kp (KpT.same (M := fun _ => False) s6) (fun z => z) (fun z => z) (fun z => z)
        have fk6 := fk.same s6
        have f6 : FlOk K (L2.upd (L2.upd H' dq (.own q)) q (.ins (ga K "Filter") dq ([("name", .str fn)] : List (Str × V)))) tg2 (.fil q fn) := ⟨yp.untag hq, dq, upd_same⟩
        generalize L2.upd (L2.upd H' dq (.own q)) q (.ins (ga K "Filter") dq ([("name", .str fn)] : List (Str × V))) = H6 at yp6 ok6 fk6 f6 s6 ⊢
        have hlt : fs.length = min j row.filters.length := by
          have z := congrArg List.length hfs
          rw [List.length_map, List.length_map, List.length_take] at z
          exact z
        have hfewF : row.filters.length ≤ 2 := hrok.fewF
        have hqn : q ∉ fs.map FlR.addr := fun z => by
          obtain ⟨g, hg, e⟩ := List.mem_map.mp z
          exact (ok.fs g hg).live (by rw [e]; exact hq)
        refine ⟨r0.a, _, d6, r0.fl, q, _, fs.map FlR.addr, rfl, s6 _ _ a6, T.cl_Logger, T.no_Logger_filters, (lgF_lk ..).2.2.2.2.2.2.1, ok6.flE, f6.cmp T, fun z hz => ?_, hqn, by rw [List.length_map]; omega, ?_⟩
        · obtain ⟨g, hg, rfl⟩ := List.mem_map.mp hz
          exact (ok6.fs g hg).cmp T
        · have ok7 := ok6.addF f6
          obtain ⟨yp7, kt7⟩ := yp6.lgStep e0 ok7 rfl rfl rfl rfl (Kp.at (.inr (.inl rfl)))
          have fk7 := fk6.kp kt7
          refine ⟨_, fs ++ [.fil q fn], rfl, (by exact yp7), (by exact ok7), (by exact fk7), ?_⟩
          rw [take_nth hfn, List.map_append, List.map_append, hfs]
          rfl
      rintro σ' H6 ⟨o8', fs, rfl, yp6, ok6, fk6, hfs⟩
      rw [List.length_map, List.take_length] at hfs
      -- handlers
      refine ⟨_, rfl, ra, _, rfl, dget (Fg fk6 era) (vr_handlers row hl fl), ?_⟩
      refine ⟨hl, rfl, ⟨_, SqL.of (Fg fk6 ehl)⟩, ?_⟩
      refine for_list (xs := row.handlers.map natV) (fun j σ' H' => ∃ o9 has, σ' = [some (.ref p), some (.ref Y3.y), o1, o2, some (.ref D), some (.str nm), some (.ref r0.a), some (.ref ra), o8', o9] ∧ YardW K H' tg2 (Y2.putLg nm { r0 with level := row.level, prop := row.prop, dis := row.disabled, fs := fs, hs := has }) ∧
        LgOk K H' tg2 Y2.y nm { r0 with level := row.level, prop := row.prop, dis := row.disabled, fs := fs, hs := has } ∧ FrK G H' tg2 ∧ has.map some = (row.handlers.take j).map fun n => (Y3.hds[n]?).map (·.a)) ?_ (fun j σ' H' _ ⟨_, _, _, _, _, f, _⟩ => SqL.of (Fg f ehl)) ?_ ?_
      · exact ⟨_, r0.hs, rfl, yp6, ok6, fk6, by rw [h0]; rfl⟩
      · rintro j v σ' H' hv ⟨o9', has, rfl, yp, ok, fk, hhs⟩
        rw [List.getElem?_map] at hv
        obtain ⟨n, hn, rfl⟩ := Option.map_eq_some_iff.mp hv
        have hnl : n < Y3.hds.length := by
          rw [Paired.length pf3]
          exact hrok.handlers n (List.mem_of_getElem? hn)
        have hY : ∀ (m : Nat) (h : HdR), Y3.hds[m]? = some h → HdOk K H' tg2 (Y2.putLg nm { r0 with level := row.level, prop := row.prop, dis := row.disabled, fs := fs, hs := has }).y m h := fun m h e => yp.hds m h (by rw [put_same.2.1, hh3]; exact e)
        have hcmp : ∀ (m : Nat) (h : HdR), Y3.hds[m]? = some h → RyR.CmpV K H' h.a := fun m h e => by
          obtain ⟨dh, eh⟩ := (hY m h e).aE
          exact .inl ⟨_, dh, _, eh, (hc_of K h.st).cmp T⟩
        have hen : Y3.hds[n]? = some Y3.hds[n] := List.getElem?_eq_getElem hnl
        have hmem : ∀ z ∈ has, ∃ (m : Nat) (h : HdR), m ∈ row.handlers.take j ∧ Y3.hds[m]? = some h ∧ h.a = z := fun z hz => by
          have q : some z ∈ has.map some := List.mem_map.mpr ⟨z, hz, rfl⟩
          rw [hhs] at q
          obtain ⟨m, hm, e⟩ := List.mem_map.mp q
          obtain ⟨h, e1, e2⟩ := Option.map_eq_some_iff.mp e
          exact ⟨m, h, hm, e1, e2⟩
        have hno : Y3.hds[n].a ∉ has := fun z => by
          obtain ⟨m, h, hm, e1, e2⟩ := hmem _ z
          have t1 := (hY m h e1).ta
          rw [e2, (hY n _ hen).ta] at t1
          injection t1 with t1
          injection t1 with t1
          rw [← t1] at hm
          obtain ⟨j', hj', e⟩ := List.getElem_of_mem hm
          rw [List.length_take] at hj'
          rw [List.getElem_take] at e
          have q := nodup_inj hrok.nd (List.getElem?_eq_getElem (show j' < row.handlers.length by omega)) (by rw [e]; exact hn)
          omega
        have hfewH : row.handlers.length ≤ 2 := hrok.fewH
        have hlt : has.length = min j row.handlers.length := by
          have z := congrArg List.length hhs
          rw [List.length_map, List.length_map, List.length_take] at z
          exact z
        obtain ⟨d6, a6⟩ := ok.aE
        have eDh := (fk _ _ gD).1
        refine ⟨_, rfl, r0.a, d6, _, rfl, a6, (lgF_lk ..).2.2.2.2.1, _, rfl, _, rfl, D, _, _, _, rfl, rfl, SqL.of eDh, atI_nat (by rw [List.getElem?_map, hen]; rfl), ?_⟩
        refine ⟨r0.a, d6, r0.hl, Y3.hds[n].a, _, has, rfl, a6, (lgF_lk ..).2.2.2.2.2.2.2, ok.hlE, hcmp n _ hen, fun z hz => ?_, hno, by omega, ?_⟩
        · obtain ⟨m, h, _, e1, e2⟩ := hmem z hz
          rw [← e2]
          exact hcmp m h e1
        · have ok7 := ok.addH Y3.hds[n].a
          obtain ⟨yp7, kt7⟩ := yp.lgStep e0 ok7 rfl rfl rfl rfl (Kp.at (.inr (.inr rfl)))
          have fk7 := fk.kp kt7
          refine ⟨_, has ++ [Y3.hds[n].a], rfl, (by exact yp7), (by exact ok7), (by exact fk7), ?_⟩
          rw [take_nth hn, List.map_append, List.map_append, hhs]
          show _ = _ ++ [(Y3.hds[n]?).map (·.a)]
          rw [hen]
          rfl
      rintro σ' H7 ⟨o9', has, rfl, yp7, ok7, fk7, hhs⟩
      rw [List.length_map, List.take_length] at hhs
      have fit : LgFit Y3.hds { r0 with level := row.level, prop := row.prop, dis := row.disabled, fs := fs, hs := has } row := ⟨rfl, rfl, rfl, hfs, hhs⟩
      obtain ⟨p1, p2, p3, p4, p5, p6⟩ := put_same (Y := Y2) (k := nm) (r := { r0 with level := row.level, prop := row.prop, dis := row.disabled, fs := fs, hs := has })
      have prt := put_rt (Y := Y2) (k := nm) (r := { r0 with level := row.level, prop := row.prop, dis := row.disabled, fs := fs, hs := has })
      have pmem := fun x => put_mem (Y := Y2) (k := nm) (r := { r0 with level := row.level, prop := row.prop, dis := row.disabled, fs := fs, hs := has }) (x := x)
      have pro := put_rows (Y := Y2) (k := nm) (r := { r0 with level := row.level, prop := row.prop, dis := row.disabled, fs := fs, hs := has }) yw2.nd e0 rfl
      have pra := put_rta (Y := Y2) (k := nm) (r := { r0 with level := row.level, prop := row.prop, dis := row.disabled, fs := fs, hs := has }) e0 rfl
      have pke := put_keys (Y := Y2) (k := nm) (r := { r0 with level := row.level, prop := row.prop, dis := row.disabled, fs := fs, hs := has })
      have r0nm : nm = "" → r0 = Y2.root := fun z => by
        subst z
        rw [at_root] at e0
        exact (Option.some.inj e0).symm
      have hall : ∀ x ∈ (Y2.putLg nm { r0 with level := row.level, prop := row.prop, dis := row.disabled, fs := fs, hs := has }).lgs, x.2.par = .ref (parentA Y2.rows Y2.root.a x.1) ∧ ∃ row, (x.1, row) ∈ pl.loggers ∧ LgFit Y3.hds x.2 row := fun x hx => by
        rcases pmem x hx with ⟨ne, rfl⟩ | ⟨hx2, hne⟩
        · rw [at_ne ne] at e0
          exact ⟨(ht2.lgs _ (lookup_mem e0)).1, row, hrow, fit⟩
        · obtain ⟨q1, q2⟩ := ht2.lgs x hx2
          rw [hh3] at q2
          refine ⟨q1, q2 ?_⟩
          by_cases en : nm = ""
          · rw [en]
            exact logMenu_em (yw2.lgs x hx2).2.2
          · exact hne en
      refine ⟨tg2, _, _, _, _, _, _, rfl, yp7, fk7, ⟨p1.trans ht2.y, p3.trans ht2.bar, p4.trans ht2.names, p5.trans ht2.numbers, p2.trans hh3, p6.trans ht2.mkx, ?_, pke.trans ht2.keys, fun x hx => ⟨by rw [pro, pra]; exact (hall x hx).1, fun _ => by rw [p2, hh3]; exact (hall x hx).2⟩, fun z => ?_, fun z => ?_⟩, fun x hx => by rw [p2, hh3]; exact (hall x hx).2⟩
      · rw [prt]
        by_cases en : nm = ""
        · rw [if_pos en]
          show r0.par = .non
          rw [r0nm en]
          exact ht2.rootP
        · rw [if_neg en]
          exact ht2.rootP
      · have en : nm ≠ "" := fun q => z (by rw [← q]; exact hin)
        rw [prt, if_neg en]
        exact ht2.rt0 z
      · rw [p2, hh3, prt]
        by_cases en : nm = ""
        · rw [if_pos en]
          exact ⟨row, by rw [← en]; exact hrow, fit⟩
        · rw [if_neg en]
          have q : ("" : Str) ∈ ys.take i := by
            rw [htk] at z
            rcases List.mem_append.mp z with z | z
            · exact z
            · exact absurd (List.mem_singleton.mp z).symm en
          have w := ht2.rt1 q
          rw [hh3] at w
          exact w
    rintro σ' H7 ⟨tg, Y, o5, o6, o7, o8, o9, rfl, yw, fk, ht, hall⟩
    rw [List.length_map] at ht
    have hyy : Y.y = Y3.y := ht.y
    obtain ⟨dy, ey⟩ := yw.yE
    have eP7 := (fk _ _ (sHG _ _ Wat)).1
    refine ⟨_, rfl, Y3.y, dy, _, rfl, by rw [← hyy]; exact ey, (yd_lk2 ..).2.2.1, _, rfl, p, _, rfl, dget eP7 (vk_bar hs ws lg pl.bar), ?_⟩
    refine ⟨Y3.y, dy, _, pl.bar, rfl, by rw [← hyy]; exact ey, (yd_lk ..).1, csz rfl, ?_⟩
    rw [ydF_bar]
    refine ⟨_, rfl, ?_⟩
    have yw8 := yw.barSet dy pl.bar
    rw [hyy] at yw8
    rw [← hyy]
    refine k tg { Y with bar := pl.bar } ys _ (by rw [hyy]; exact yw8) ⟨rfl, ht.names.trans n3, ht.numbers.trans u3, ht.mkx.trans mx3, ?_, ht.rootP, ?_, hperm, hsrt, ?_, fun x hx => ⟨(ht.lgs x hx).1, hall x hx⟩⟩ ?_
    · show Paired HdFit Y.hds pl.handlers
      rw [ht.hds]
      exact pf3
    · refine ht.rt1 ?_
      rw [List.take_length]
      exact hperm.mem_iff.mpr hok.root
    · have z := ht.keys
      rw [List.take_length] at z
      exact z
    · exact (fk.sub sHG).kp (KpT.at yw.ty rfl)
end
end Ry
set_option maxHeartbeats 2000000
/-! sorted(xs), the items read as data. -/
namespace RyD
open PySem PySem.Spec PyProof.Rows
open L2 hiding St
open PySem.W (EachIs dataLe alike AllAlike Sortable keyToks keyToksAll)
abbrev St := L2.St
section
variable {X : Cx} {β : Type} {F : V → β → Prop} {enc : β → PyData}
theorem each_of {its : List Value} {vs : List V} {bs : List β} (rv : Vals vs its) (p : Paired F vs bs) : EachIs (fun u b => ∃ v, RelV v u ∧ F v b) its bs := by
  induction p generalizing its with
  | nil => cases rv; exact .nil
  | cons h t ih =>
    cases rv with
    | cons r rr => exact .cons ⟨_, r, h⟩ (ih rr)
theorem of_each {out : List Value} {bs : List β} (e : EachIs (fun u b => ∃ v, RelV v u ∧ F v b) out bs) : ∃ ws, Vals ws out ∧ Paired F ws bs := by
  induction e with
  | nil => exact ⟨[], .nil, .nil⟩
  | cons h t ih =>
    obtain ⟨v, r, f⟩ := h
    obtain ⟨ws, a, b⟩ := ih
    exact ⟨v :: ws, .cons r a, .cons f b⟩
def rSortDat (K : PySem.W.Frag) (enc : β → PyData) (F : Hp → V → β → Prop) : List V → Hp → VK → Prop := fun xs H Q => ∃ (a : Addr) (vs : List V) (bs : List β), xs = [.ref a] ∧ SqL K H a vs ∧ Paired (F H) vs bs ∧ (∀ v b, F H v b → Dp K H v (enc b)) ∧ bs.length ≤ sizeLine ∧ (∀ b ∈ bs, (enc b).depth ≤ 60) ∧
  ∀ ws p, Paired (F H) ws (bs.mergeSort (dataLe false enc)) → ws.length = bs.length → H p = none → Q (.ref p) (upd H p (.lst ws))
theorem cr_sortedDat {F : Hp → V → β → Prop} (hu : X.A.units + 64 < cLine) (hal : ∀ b b' : β, alike (enc b) (enc b') = true) (hk : (∀ b : β, ∃ x r, enc b = .tuple (x :: r)) ∨ ∀ b : β, enc b ≠ .none ∧ ∀ xs, enc b ≠ .tuple xs) : CallR X (.builtin "sorted") (rSortDat X.K enc F) := by
  intro pins s σ H xs us Q I r h
  obtain ⟨a, vs, bs, rfl, hs, hp, hd, hlen, hdep, q⟩ := h
  obtain ⟨its, rv, hl, _⟩ := I.list hs
  rw [Vals.ref1 r]
  have e := each_of rv hp
  have er : EachIs (fun u b => ∃ as, Reads s.heap u (enc b) as) its bs := e.mono fun u b ⟨v, r, f⟩ => Dp.reads I (enc b) v u (hd v b f) r
  refine PySem.W.sorted_data hl.isList e er (AllAlike.of hal) (hk.elim Sortable.tuples Sortable.others) hlen (fun b hb => ?_) fun out hlo ho => ?_
  · have := hdep b hb
    omega
  · obtain ⟨ep, he'⟩ := PyProof.Rows.sortedAll_at s.heap its out.toArray
    obtain ⟨ws, w1, w2⟩ := of_each ho
    have l1 := w1.length
    have hl' : ws.length = bs.length := by rw [l1]; exact hlo
    exact ⟨.ref _, upd H (s.heap.objs.size + 1) (.lst ws), I.laid (t' := s.toks) (fun _ _ => PyProof.Rows.sortedAll_old) (Nat.le_succ _) ⟨by rw [hl']; exact hlen, out, ep, w1, he'⟩, rfl, q ws _ w2 hl' (I.hok.fresh (Nat.le_succ _))⟩
end
/-! the order of data: lists with the same items, sorted, are one -/
theorem sortDat_perm {β : Type} {enc : β → PyData} (inj : ∀ a b : β, keyToks (enc a) = keyToks (enc b) → a = b) {xs ys : List β} (h : xs.Perm ys) : xs.mergeSort (dataLe false enc) = ys.mergeSort (dataLe false enc) := by
  have tr : ∀ x y z : β, dataLe false enc x y = true → dataLe false enc y z = true → dataLe false enc x z = true := fun x y z h1 h2 => by
    have h1' : (!PyProof.Rows.lexLt itemOrd (keyToks (enc y)) (keyToks (enc x))) = true := h1
    have h2' : (!PyProof.Rows.lexLt itemOrd (keyToks (enc z)) (keyToks (enc y))) = true := h2
    show (!PyProof.Rows.lexLt itemOrd (keyToks (enc z)) (keyToks (enc x))) = true
    rw [Bool.not_eq_true'] at h1' h2' ⊢
    cases q : PyProof.Rows.lexLt itemOrd (keyToks (enc z)) (keyToks (enc x)) with
    | false => rfl
    | true =>
      rcases lex_negTrans (O := itemOrd) _ (keyToks (enc y)) _ q with z | z
      · exact z.symm.trans h2'
      · exact z.symm.trans h1'
  have tt : ∀ x y : β, (dataLe false enc x y || dataLe false enc y x) = true := fun x y => by
    show ((!PyProof.Rows.lexLt itemOrd (keyToks (enc y)) (keyToks (enc x))) || (!PyProof.Rows.lexLt itemOrd (keyToks (enc x)) (keyToks (enc y)))) = true
    cases q : PyProof.Rows.lexLt itemOrd (keyToks (enc y)) (keyToks (enc x)) with
    | false => rfl
    | true =>
      cases q2 : PyProof.Rows.lexLt itemOrd (keyToks (enc x)) (keyToks (enc y)) with
      | false => rfl
      | true =>
        have z := lex_trans (O := itemOrd) _ _ _ q q2
        rw [lex_irrefl] at z
        cases z
  refine PySem.W.Srt.the_of_perm (dataLe false enc) tr tt (fun x y h1 h2 => ?_) ((List.mergeSort_perm xs _).trans h) (List.pairwise_mergeSort tr tt xs)
  have h1' : (!PyProof.Rows.lexLt itemOrd (keyToks (enc y)) (keyToks (enc x))) = true := h1
  have h2' : (!PyProof.Rows.lexLt itemOrd (keyToks (enc x)) (keyToks (enc y))) = true := h2
  rw [Bool.not_eq_true'] at h1' h2'
  exact inj _ _ (lex_total (O := itemOrd) _ _ h2' h1')
end RyD
/-! A new lambda as a value, known by its class alone; a def with its code object's address. -/
namespace RyL
open PySem PySem.Spec PyProof.Rows
open L2 hiding St
open LamX (Tabs TabB ExtN inv_table CodeO codeO_ne among_app)
abbrev St := L2.St
theorem fnO_tbl {a : Addr} (ps : Array Value) : RyR.FnO a ≠ .tbl ps := fun z => by
  unfold RyR.FnO at z
  cases z
def tLamNew (T : List (Addr × Str)) : TE := fun σ H Q => Tabs T H ∧ ∀ (f : Addr) (H1 : Hp), ExtN H H1 → (∀ b, H1 b = none → H b = none) → Tabs T H1 → H f = none → H1 f = some (RyR.FnO f) → Q (.ref f) H1
section
variable {X : Cx} {pins : List (Addr × Obj)} {σ : St} {H : Hp} {s : Shared}
theorem inv_fnO {o : Obj} {t' : Nat} (I : Inv X pins σ H s) (ho : o.cls = .type "function") (hf : o.isFreed = false) :
    Inv X pins σ (upd H s.heap.objs.size (RyR.FnO s.heap.objs.size)) { s with heap := s.heap.push o, toks := t' } := by
  refine I.laid (a := s.heap.objs.size) (fun b u e => Heap.get?_push_of_some _ e) (Nat.le_refl _) ?_
  have e : (s.heap.push o).get? s.heap.objs.size = some o := Heap.get?_push_size _ hf
  exact ⟨⟨_, e, ho⟩, ⟨_, e⟩, fun h1 h2 ⟨o', z1, z2⟩ st => ⟨o', st _ z1, z2⟩⟩
theorem upd_none {H : Hp} {a b : Addr} {o : HO} (e : upd H a o b = none) : H b = none := by
  unfold upd at e
  split at e
  · cases e
  · exact e
theorem pe_lamNew {T : List (Addr × Str)} {c P : Addr} {params : Arguments} {body : Expr} {scope : Scope} {pos : Pos} (TB : TabB X.base X.mg c P) (hcode : X.env.code = .ref c)
    (hm : (P, X.env.qual ++ "<lambda>") ∈ T) (hu : ∀ p ∈ T, p.1 = P → p.2 = X.env.qual ++ "<lambda>") (hdef : defaultsOf params X.env = ([], [])) (hfree : ∀ y ∈ scope.names, y.2 = .free → ∃ c, X.env.cells.lookup y.1 = some c) :
    PE X (.Lambda params body scope pos) (tLamNew T) := by
  refine ⟨fun pins s σ H Q I h => ?_⟩
  obtain ⟨hT, h⟩ := h
  obtain ⟨ps, hP, ht, ha⟩ := hT _ hm
  refine PySem.W.kla_eval hdef ?_
  have bP : s.heap.BuiltinsAt X.mg P := TB.bm.keeps I.bk
  have hP' : s.heap.get? P = some { cls := .none, data := .fields ps } := I.hok P _ hP
  cases hc : codeAmong pos ps.toList with
  | none =>
    refine PySem.W.kla_makeFunction (mg := X.mg) (c := c) (P := P) (ps := ps) (closure_ok hfree) I.ok.glob (I.mod.glob.keeps I.bk) hcode (TB.code.keeps I.bk) hP' ht hc TB.gP bP fun c' ctv h' tk hx hge hlt hrec htb => ?_
    obtain ⟨c2, oc, vs, t, e2, hoc, hd, hv⟩ := hrec
    cases e2
    have nC : H c' = none := I.hok.fresh hge
    have I1 := inv_table (t' := tk) (more := #[rawInt pos.line, rawInt pos.col, .ref c']) (h' := h') I hP (fun b o hb e => hx b o hb e) htb hge ⟨oc, vs, t, hoc, hd, hv⟩
    have hE : ExtN H (upd (upd H P (.tbl (ps ++ #[rawInt pos.line, rawInt pos.col, .ref c']))) c' (CodeO c' (X.env.qual ++ "<lambda>"))) := fun b o e n => by
      rw [upd_ne (ne_of_none e nC), upd_ne (fun z => n ps (Option.some.inj (e.symm.trans (by rw [z]; exact hP))))]
      exact e
    have eL : (ps ++ #[rawInt pos.line, rawInt pos.col, .ref c']).toList = ps.toList ++ [rawInt pos.line, rawInt pos.col, .ref c'] := by simp
    have T1 : Tabs T (upd (upd H P (.tbl (ps ++ #[rawInt pos.line, rawInt pos.col, .ref c']))) c' (CodeO c' (X.env.qual ++ "<lambda>"))) := fun p hp => by
      by_cases hb : p.1 = P
      · rw [hu p hp hb, hb]
        refine ⟨_, by rw [upd_ne (ne_of_none hP nC), upd_same], by rw [eL]; exact PySem.TriplesOk_snoc _ _ _ _ ht, fun p' cv hcv => ?_⟩
        rw [eL] at hcv
        rcases among_app _ ht hcv with z | z
        · obtain ⟨c0, e1, e2⟩ := ha p' cv z
          exact ⟨c0, e1, hE _ _ e2 codeO_ne⟩
        · exact ⟨c', z, upd_same⟩
      · obtain ⟨ps', a1, a2, a3⟩ := hT p hp
        refine ⟨ps', by rw [upd_ne (ne_of_none a1 nC), upd_ne hb]; exact a1, a2, fun p' cv hcv => ?_⟩
        obtain ⟨c0, e1, e2⟩ := a3 p' cv hcv
        exact ⟨c0, e1, hE _ _ e2 codeO_ne⟩
    have nF := I1.hok.fresh (Nat.le_refl _)
    have I2 := inv_fnO (o := PySem.W.kla_obj "<lambda>" (X.env.qual ++ "<lambda>") params body scope (cloFrom X.env.cells scope.names []) ((X.mg "__name__").getD .none) c' ctv) (t' := tk) I1 rfl rfl
    refine ⟨.ref h'.objs.size, _, I2, rfl, h h'.objs.size _ (fun b o e n => ?_) (fun b e => upd_none (upd_none (upd_none e))) (T1.ext fun b o e => ?_) (I.hok.fresh (Nat.le_trans hge (Nat.le_of_lt hlt))) upd_same⟩
    · have e1 := hE b o e n
      exact (upd_ne (ne_of_none e1 nF)).trans e1
    · exact (upd_ne (ne_of_none e nF)).trans e
  | some cv =>
    obtain ⟨c', e, hco⟩ := ha pos cv hc
    subst e
    refine PySem.W.kla_makeFunctionHit (mg := X.mg) (c := c) (P := P) (ps := ps) (closure_ok hfree) I.ok.glob (I.mod.glob.keeps I.bk) hcode (TB.code.keeps I.bk) hP' ht hc bP fun ctv h' tk hx hsz => ?_
    have I1 : Inv X pins σ H { s with heap := h', toks := tk } := I.kept hx
    have nF : H h'.objs.size = none := I1.hok.fresh (Nat.le_refl _)
    have I2 := inv_fnO (o := PySem.W.kla_obj "<lambda>" (X.env.qual ++ "<lambda>") params body scope (cloFrom X.env.cells scope.names []) ((X.mg "__name__").getD .none) c' ctv) (t' := tk) I1 rfl rfl
    refine ⟨.ref h'.objs.size, _, I2, rfl, h h'.objs.size _ (fun b o e n => (upd_ne (ne_of_none e nF)).trans e) (fun b e => upd_none e) (hT.ext fun b o e => (upd_ne (ne_of_none e nF)).trans e) nF upd_same⟩
end
section
variable {P : Program} {w : World} {K : PySem.W.Frag} {mg : Str → Option Value} {base : Heap} {x qual : Str} {params : Arguments} {body : List Stmt} {scope : Scope} {dvs : List V} {kws : List (Str × V)} {fd : FuncData}
/-- a def's rule, its code object told -/
theorem okC {CX : CXT} {N ps : List Str} {k : Nat} {sp : Sp} {p : Str × Option Str} (F : FunD K x qual params body scope dvs kws (He.fAd K p) fd) (S : FnScope N ps scope) (len : ∀ vs H Q E, sp vs H Q E → vs.length = ps.length)
    (hbody : ∀ (A : Around) (outer : List Env) (s : Shared) (H : Hp) (vs : List V) (Q : VK) (E : XK), Room k (A.deeper (envOfC qual scope s.heap.objs.size (He.fAd K p) (.ref (He.codeOf K p)))) → sp vs H Q E →
      ∃ t, PSs (cxOf CX P w K mg base N qual scope (He.fAd K p) (.ref (He.codeOf K p)) A outer s H E) body t ∧ t { nx := fun _ H' => Q .non H', rt := Q } (start N vs) H) : FnOk P w K mg base CX (k + 1) (He.fAd K p) fd ps sp := by
  obtain ⟨oc, od, dV, kV, doc, pm, an, cdv, ct, osl, rfl, lk, hcd, _, _⟩ := F.ex
  obtain ⟨c, hc⟩ := He.codeIn_ref hcd
  have e := He.codeOf_eq (p := p) lk (show _ = Value.ref c from hc)
  have e2 : cdv = .ref (He.codeOf K p) := by rw [e]; exact hc
  rw [e2] at lk hcd ⊢
  exact fn_of lk hcd S len fun A outer s H vs Q E hr hsp => hbody A outer s H vs Q E hr hsp
end
end RyL
set_option maxHeartbeats 4000000
namespace Ry
open PySem PySem.Spec PyProof.Rows L2 He RyH
open C8 (pss_cut tCut Cal Met Mak pe_c pe_mk pe_mt pe_mt0 pe_gc)
/-! ### deeds, as data -/
inductive Dd where
  | bar | d2 (w nm : Str) | d3 (w nm : Str) (i : Nat) | d4 (w nm : Str) (i n : Nat)
def Dd.vs : Dd → List V
  | .bar => [.str "bar"]
  | .d2 w nm => [.str w, .str nm]
  | .d3 w nm i => [.str w, .str nm, natV i]
  | .d4 w nm i n => [.str w, .str nm, natV i, natV n]
def Dd.ds : Dd → List PyData
  | .bar => [.str "bar"]
  | .d2 w nm => [.str w, .str nm]
  | .d3 w nm i => [.str w, .str nm, .int (i : Nat)]
  | .d4 w nm i n => [.str w, .str nm, .int (i : Nat), .int (n : Nat)]
def Dd.enc (d : Dd) : PyData := .tuple d.ds
def DdAt (H : Hp) (v : V) (d : Dd) : Prop := ∃ t, v = .ref t ∧ H t = some (.tup d.vs)
theorem dd_tup (d : Dd) : ∃ x r, Dd.enc d = .tuple (x :: r) := by cases d <;> exact ⟨_, _, rfl⟩
theorem dd_alike (a b : Dd) : PySem.W.alike (Dd.enc a) (Dd.enc b) = true := by
  cases a <;> cases b <;> simp [Dd.enc, Dd.ds, PySem.W.alike, PySem.W.alikeAll]
theorem dd_depth (d : Dd) : (Dd.enc d).depth ≤ 60 := by
  cases d <;> simp [Dd.enc, Dd.ds, PyData.depth, PyData.depthAll]
theorem dd_inj (a b : Dd) (h : PySem.W.keyToks (Dd.enc a) = PySem.W.keyToks (Dd.enc b)) : a = b := by
  have sc : ∀ {x y : Str}, x.cps.toList = y.cps.toList → x = y := fun h => PySem.W.str_of_cps h
  cases a <;> cases b <;> simp only [Dd.enc, Dd.ds, PySem.W.keyToks, PySem.W.keyToksAll, List.cons_append, List.nil_append, List.cons.injEq, Sum.inl.injEq, Sum.inr.injEq, true_and, and_true, reduceCtorEq, false_and, and_false] at h
  · rfl
  all_goals first
    | (exfalso; omega)
    | (obtain ⟨h1, h2⟩ := h; rw [sc h1, sc h2])
    | (obtain ⟨h1, h2, h3⟩ := h; rw [sc h1, sc h2, Int.ofNat.inj h3])
    | (obtain ⟨h1, h2, h3, h4⟩ := h; rw [sc h1, sc h2, Int.ofNat.inj h3, Int.ofNat.inj h4])
theorem DdAt.dp {K : PySem.W.Frag} {H : Hp} {v : V} {d : Dd} (h : DdAt H v d) : Dp K H v (Dd.enc d) := by
  obtain ⟨t, rfl, e⟩ := h
  refine Dp.tup (SqT.of e) ?_
  cases d with
  | bar => exact .cons (.str _) .nil
  | d2 w nm => exact .cons (.str _) (.cons (.str _) .nil)
  | d3 w nm i => exact .cons (.str _) (.cons (.str _) (.cons (.int _) .nil))
  | d4 w nm i n => exact .cons (.str _) (.cons (.str _) (.cons (.int _) (.cons (.int _) .nil)))
theorem DdAt.kt {H H' : Hp} {v : V} {d : Dd} (h : DdAt H v d) (k : ∀ b xs, H b = some (.tup xs) → H' b = some (.tup xs)) : DdAt H' v d := by
  obtain ⟨t, e, q⟩ := h
  exact ⟨t, e, k _ _ q⟩
def sortD (ds : List Dd) : List Dd := ds.mergeSort (PySem.W.dataLe false Dd.enc)
theorem sortD_perm {xs ys : List Dd} (h : xs.Perm ys) : sortD xs = sortD ys := RyD.sortDat_perm dd_inj h
/-- the list at p tells ds; nothing that stood in H changed -/
def FN (H : Hp) (p : Addr) (H2 : Hp) (ds : List Dd) : Prop := H p = none ∧ Same H H2 ∧ ∃ xs, H2 p = some (.lst xs) ∧ Paired (DdAt H2) xs ds
theorem FN.at_ {H H2 : Hp} {p : Addr} {ds : List Dd} (h : FN H p H2 ds) : ∃ xs, H2 p = some (.lst xs) ∧ Paired (DdAt H2) xs ds ∧ xs.length = ds.length := by
  obtain ⟨_, _, xs, e, q⟩ := h
  exact ⟨xs, e, q, Paired.length q⟩
theorem FN.same {H H2 H3 : Hp} {p : Addr} {ds : List Dd} (h : FN H p H2 ds) (k : Same H2 H3) : FN H p H3 ds := by
  obtain ⟨a, b, xs, e, q⟩ := h
  exact ⟨a, Same.tr b k, xs, k _ _ e, Paired.impl q fun _ _ z => z.kt fun _ _ z => k _ _ z⟩
theorem Paired.app {α β : Type} {F : α → β → Prop} : ∀ {xs : List α} {ys : List β} {xs' : List α} {ys' : List β}, Paired F xs ys → Paired F xs' ys' → Paired F (xs ++ xs') (ys ++ ys')
  | _, _, _, _, .nil, h => h
  | _, _, _, _, .cons r t, h => .cons r (Paired.app t h)
/-- the list grows -/
theorem FN.ext {H H2 : Hp} {p : Addr} {ds es : List Dd} {xs ys : List V} (h : FN H p H2 ds) (e : H2 p = some (.lst xs)) (q : Paired (DdAt H2) ys es) : FN H p (L2.upd H2 p (.lst (xs ++ ys))) (ds ++ es) := by
  obtain ⟨a, b, xs', e', q'⟩ := h
  rw [e] at e'
  cases e'
  have kt : ∀ c zs, H2 c = some (.tup zs) → L2.upd H2 p (.lst (xs ++ ys)) c = some (.tup zs) := fun c zs z => by
    rw [upd_ne (ne_of z e fun w => nomatch w)]
    exact z
  exact ⟨a, Same.wr b a, _, upd_same, Paired.app (Paired.impl q' fun _ _ z => z.kt kt) (Paired.impl q fun _ _ z => z.kt kt)⟩
/-! ### what of a yard has deeds -/
structure HV where
  level : Int
  nf : Nat
structure LV where
  dis : Bool
  level : Int
  prop : Bool
  nf : Nat
  hs : List HV
def hDd (nm : Str) : Nat → List HV → List Dd
  | _, [] => []
  | i, x :: xs => (.d3 "handler" nm i :: (if x.level = 0 then [] else [.d3 "level" nm i])) ++ (List.range x.nf).map (fun n => .d4 "filter" nm i n) ++ hDd nm (i + 1) xs
def aDd (nm : Str) (v : LV) : List Dd := (if v.dis = true then [.d2 "disabled" nm] else []) ++ (if v.level = 0 then [] else [.d2 "level" nm]) ++ (if v.prop = true then [] else [.d2 "propagate" nm])
def dOf (nm : Str) (v : LV) : List Dd := aDd nm v ++ (List.range v.nf).map (fun i => .d3 "filter" nm i) ++ hDd nm 0 v.hs
theorem hDd_snoc (nm : Str) (x : HV) : ∀ (xs : List HV) (i : Nat), hDd nm i (xs ++ [x]) = hDd nm i xs ++ ((.d3 "handler" nm (i + xs.length) :: (if x.level = 0 then [] else [.d3 "level" nm (i + xs.length)])) ++ (List.range x.nf).map (fun n => .d4 "filter" nm (i + xs.length) n))
  | [], i => by simp [hDd]
  | y :: xs, i => by
    have e : i + 1 + xs.length = i + (y :: xs).length := by rw [List.length_cons]; omega
    rw [List.cons_append, hDd, hDd, hDd_snoc nm x xs (i + 1), e]
    simp only [List.append_assoc]
structure LVok (v : LV) : Prop where
  nf : v.nf ≤ 100
  hs : v.hs.length ≤ 100
  each : ∀ x ∈ v.hs, x.nf ≤ 100
theorem hDd_len (nm : Str) : ∀ (xs : List HV) (i : Nat), (∀ x ∈ xs, x.nf ≤ 100) → (hDd nm i xs).length ≤ 102 * xs.length
  | [], i, _ => Nat.zero_le _
  | x :: xs, i, h => by
    have h1 := hDd_len nm xs (i + 1) fun y hy => h y (List.mem_cons_of_mem _ hy)
    have h2 := h x (List.mem_cons_self ..)
    rw [hDd, List.length_append, List.length_append, List.length_cons, List.length_map, List.length_range, List.length_cons]
    split <;> simp only [List.length_nil, List.length_cons] <;> omega
theorem aDd_len (nm : Str) (v : LV) : (aDd nm v).length ≤ 3 := by
  unfold aDd
  rw [List.length_append, List.length_append]
  split <;> split <;> split <;> exact Nat.le_of_ble_eq_true rfl
theorem dOf_len (nm : Str) (v : LV) (h : LVok v) : (dOf nm v).length ≤ 10303 := by
  have h1 := hDd_len nm v.hs 0 h.each
  have h2 := aDd_len nm v
  have h3 := h.nf
  have h4 := h.hs
  unfold dOf
  rw [List.length_append, List.length_append, List.length_map, List.length_range]
  omega
def HVat (K : PySem.W.Frag) (H : Hp) (v : V) (x : HV) : Prop := ∃ a C dx fs f ys, v = .ref a ∧ H a = some (.ins C dx fs) ∧ Cls K C ∧ NoAttr K C "level" ∧ NoAttr K C "filters" ∧ lk fs "level" = some (.int x.level) ∧ lk fs "filters" = some (.ref f) ∧ H f = some (.lst ys) ∧ ys.length = x.nf
def LVat (K : PySem.W.Frag) (H : Hp) (a : Addr) (x : LV) : Prop := ∃ dx fs f h ys hvs, H a = some (.ins (ga K "Logger") dx fs) ∧ lk fs "disabled" = some (.bl x.dis) ∧ lk fs "level" = some (.int x.level) ∧ lk fs "propagate" = some (.bl x.prop) ∧ lk fs "filters" = some (.ref f) ∧ lk fs "handlers" = some (.ref h) ∧
  H f = some (.lst ys) ∧ ys.length = x.nf ∧ H h = some (.lst hvs) ∧ Paired (HVat K H) hvs x.hs
theorem HVat.same {K : PySem.W.Frag} {H H' : Hp} {v : V} {x : HV} (h : HVat K H v x) (k : Same H H') : HVat K H' v x := by
  obtain ⟨a, C, dx, fs, f, ys, e, e1, c1, c2, c3, l1, l2, e2, e3⟩ := h
  exact ⟨a, C, dx, fs, f, ys, e, k _ _ e1, c1, c2, c3, l1, l2, k _ _ e2, e3⟩
theorem LVat.same {K : PySem.W.Frag} {H H' : Hp} {a : Addr} {x : LV} (h : LVat K H a x) (k : Same H H') : LVat K H' a x := by
  obtain ⟨dx, fs, f, g, ys, hvs, e1, l1, l2, l3, l4, l5, e2, e3, e4, e5⟩ := h
  exact ⟨dx, fs, f, g, ys, hvs, k _ _ e1, l1, l2, l3, l4, l5, k _ _ e2, e3, k _ _ e4, Paired.impl e5 fun _ _ z => z.same k⟩
/-! ### a comprehension that makes tuples -/
theorem lc_deeds {n j : Nat} {te : TE} {vs : List Nat} {σ : L2.St} {D : Addr} {H1 : Hp} {Qd : Hp → Prop} (f : Nat → Dd) (hD : H1 D = none) (hn : n ≤ 1000) (hw : ∀ v, wipe ((wipe σ vs).set j (some v)) vs = wipe σ vs)
    (hs : ∀ (i : Nat) (H : Hp) (Q : VK), i < n → Same H1 H → (∀ t, H t = none → Q (.ref t) (L2.upd H t (.tup (f i).vs))) → te ((wipe σ vs).set j (some (.int (0 + i)))) H Q)
    (hd : ∀ H xs, Same H1 H → H D = some (.lst xs) → Paired (DdAt H) xs ((List.range n).map f) → Qd H) :
    ∃ W : Nat → Nat → Hp → Prop, (∃ m, W 0 m (L2.upd H1 D (.lst []))) ∧ ∀ i m H, W i m H →
      ((Itr 0 n).stop i H ∧ Qd H) ∨ ((Itr 0 n).go i H ∧ ∃ Nx : Hp → Prop, (∀ H', Nx H' → ∃ m', m' < m ∧ W (i + 1) m' H') ∧ ∀ x H', (Itr 0 n).yld i H x H' → gName j x (wipe σ vs) H' fun σ2 H2 => wipe σ2 vs = wipe σ vs ∧ tYes σ2 H2 fun b H3 =>
        if b = true then te σ2 H3 fun y H4 => ∃ acc, H4 D = some (.lst acc) ∧ acc.length < sizeLine ∧ Nx (L2.upd H4 D (.lst (acc ++ [y]))) else Nx H3) := by
  refine lc_range (lo := 0) (n := n) (fun i H => i ≤ n ∧ Same H1 H ∧ ∃ xs, H D = some (.lst xs) ∧ Paired (DdAt H) xs ((List.range i).map f)) ⟨Nat.zero_le _, Same.nw hD, [], upd_same, .nil⟩ ?_ ?_
  · rintro i H hi ⟨_, hk, xs, e, q⟩
    refine ⟨hw _, ?_⟩
    dsimp only [tYes]
    rw [if_pos rfl]
    refine hs i H _ hi hk fun t ht => ?_
    have hl : xs.length = i := by rw [Paired.length q, List.length_map, List.length_range]
    have kt : ∀ c zs, H c = some (.tup zs) → L2.upd (L2.upd H t (.tup (f i).vs)) D (.lst (xs ++ [.ref t])) c = some (.tup zs) := fun c zs z => by
      rw [upd_ne (ne_of z e fun w => nomatch w), upd_ne (ne_of_none z ht)]
      exact z
    refine ⟨xs, upd_at e ht, by rw [hl, sizeLine_eq]; omega, by omega, Same.wr (Same.tr hk (Same.nw ht)) hD, _, upd_same, ?_⟩
    rw [List.range_succ, List.map_append]
    refine Paired.app (Paired.impl q fun _ _ z => z.kt kt) (.cons ⟨t, rfl, ?_⟩ .nil)
    rw [upd_ne (ne_of_none e ht).symm, upd_same]
  · rintro H ⟨_, hk, xs, e, q⟩
    exact hd H xs hk e q
def spDeedsOf (K : PySem.W.Frag) : Sp := fun vs H Q _ => ∃ (nm : Str) (a : Addr) (v : LV), vs = [.str nm, .ref a] ∧ LVat K H a v ∧ LVok v ∧ ∀ p H', FN H p H' (dOf nm v) → Q (.ref p) H'
section
variable {P : Program} {w : World} {K : PySem.W.Frag} {mg : Str → Option Value} {base : Heap}
theorem sc_deeds_of : FnScope ["name", "logger", "found", "place", "handler", "number"] ["name", "logger"] (defScope s_deeds_of) := ⟨rfl, rfl, rfl, by decide +kernel, rfl, by decide +kernel, by decide +kernel⟩
theorem cal_deeds_of (T : Txt w K mg) : Cal P w K mg base 1 "deeds_of" (spDeedsOf K) [] := by
  obtain ⟨fd, F⟩ := T.df_deeds_of
  refine ⟨_, fd, ["name", "logger"], [], F.ok sc_deeds_of (fun vs H Q E h => ?_) (fun cdv A outer s H vs Q E hr h => ?_), T.m_deeds_of, F.kp, F.bindsN (fun _ _ _ _ _ _ us hl => match us, hl with | [_, _], _ => rfl), .nil⟩
  · obtain ⟨_, _, _, rfl, _⟩ := h
    rfl
  · obtain ⟨nm, a, v, rfl, hv, hok, k⟩ := h
    refine ⟨_, PSs.nox (pss_cons (ps_set (i := 2) sc_deeds_of.nd rfl (Or.inl rfl) (RyT.pe_cutE (pe_ifExp (pt_val (pe_fld (pv 1) rfl)) (pe_lst (pa_cons (pe_tup (pa_cons pe_str (pa_cons (pv 0) pa_nil))) pa_nil)) (pe_lst pa_nil))))
      (pss_cut (ps_if (pt_cmpR op_ne (pe_fld (pv 1) rfl) pe_int (nomark _))
        (pss_one (ps_expr (pe_bm PySem.F.plainAttrs_list PySem.F.slot_list_append PySem.F.type_list_append mt_append (pv 2) (pa_cons (pe_tup (pa_cons pe_str (pa_cons (pv 0) pa_nil))) pa_nil))))
        pss_nil)
      (pss_cut (ps_if (pt_not (pt_val (pe_fld (pv 1) rfl)))
        (pss_one (ps_expr (pe_bm PySem.F.plainAttrs_list PySem.F.slot_list_append PySem.F.type_list_append mt_append (pv 2) (pa_cons (pe_tup (pa_cons pe_str (pa_cons (pv 0) pa_nil))) pa_nil))))
        pss_nil)
      (pss_cons (ps_expr (pe_bm PySem.F.plainAttrs_list PySem.F.slot_list_extend PySem.F.type_list_extend mt_extend (pv 2) (pa_cons (pe_lc (own := [("place", 3)]) rfl sc_deeds_of.nd (pi_range1 (by rfl) T.f_range (pa_cons (pe_callB (id := "len") call_len_seq (by rfl) T.f_len PySem.boot_len (pa_cons (pe_fld (pv 1) rfl) pa_nil)) pa_nil)) (blkOk_by (N := ["name", "logger", "found", "place", "handler", "number"]) (sc := defScope s_deeds_of) (own := [("place", 3)]) (by decide +kernel)) (fun _ _ _ _ _ => pg_name (i := 3) sc_deeds_of.nd rfl (Or.inl rfl)) (fun _ _ _ _ _ => pts_nil) (fun _ _ _ _ _ => (pe_tup (pa_cons pe_str (pa_cons (pv 0) (pa_cons (pv 3) pa_nil)))))) pa_nil)))
      (pss_cons (ps_for PassesOwn.never rfl (pi_enum (by rfl) T.f_enumerate (pa_cons (pe_fld (pv 1) rfl) pa_nil)) (pg_tup rfl (pgs_cons (pg_name (i := 3) sc_deeds_of.nd rfl (Or.inr rfl)) (pgs_cons (pg_name (i := 4) sc_deeds_of.nd rfl (Or.inl rfl)) pgs_nil)))
        (pss_cons (ps_expr (pe_bm PySem.F.plainAttrs_list PySem.F.slot_list_append PySem.F.type_list_append mt_append (pv 2) (pa_cons (pe_tup (pa_cons pe_str (pa_cons (pv 0) (pa_cons (pv 3) pa_nil)))) pa_nil)))
        (pss_cut (ps_if (pt_cmpR op_ne (pe_fld (pv 4) rfl) pe_int (nomark _))
          (pss_one (ps_expr (pe_bm PySem.F.plainAttrs_list PySem.F.slot_list_append PySem.F.type_list_append mt_append (pv 2) (pa_cons (pe_tup (pa_cons pe_str (pa_cons (pv 0) (pa_cons (pv 3) pa_nil)))) pa_nil))))
          pss_nil)
        (pss_one (ps_expr (pe_bm PySem.F.plainAttrs_list PySem.F.slot_list_extend PySem.F.type_list_extend mt_extend (pv 2) (pa_cons (pe_lc (own := [("number", 5)]) rfl sc_deeds_of.nd (pi_range1 (by rfl) T.f_range (pa_cons (pe_callB (id := "len") call_len_seq (by rfl) T.f_len PySem.boot_len (pa_cons (pe_fld (pv 4) rfl) pa_nil)) pa_nil)) (blkOk_by (N := ["name", "logger", "found", "place", "handler", "number"]) (sc := defScope s_deeds_of) (own := [("number", 5)]) (by decide +kernel)) (fun _ _ _ _ _ => pg_name (i := 5) sc_deeds_of.nd rfl (Or.inl rfl)) (fun _ _ _ _ _ => pts_nil) (fun _ _ _ _ _ => (pe_tup (pa_cons pe_str (pa_cons (pv 0) (pa_cons (pv 3) (pa_cons (pv 5) pa_nil))))))) pa_nil)))))))
      (pss_one (ps_ret (pv 2)))))))), ?_⟩
    have hvn := hok.nf
    obtain ⟨dx, fs, f, g, ys, hvs, ea, l1, l2, l3, l4, l5, ef, hnf, eg, hP⟩ := hv
    have hhl : hvs.length = v.hs.length := Paired.length hP
    have hh100 := hok.hs
    -- found = ..
    refine ⟨fun w H2 => ∃ p, w = .ref p ∧ FN H p H2 (if v.dis = true then [.d2 "disabled" nm] else []), ?_, ?_⟩
    · refine ⟨_, rfl, a, _, dx, fs, _, rfl, ea, T.cl_Logger, T.no_Logger_disabled, l1, _, rfl, ?_⟩
      cases v.dis with
      | true =>
        refine iteT ?_
        refine ⟨_, rfl, ssz rfl, fun t ht => ⟨ssz rfl, fun p hp => ⟨p, rfl, was_none hp, Same.tr (Same.nw ht) (Same.nw hp), [.ref t], upd_same, .cons ⟨t, rfl, ?_⟩ .nil⟩⟩⟩
        rw [upd_ne (ne_of_none upd_same hp), upd_same]
        rfl
      | false =>
        refine iteF ?_
        exact ⟨ssz rfl, fun p hp => ⟨p, rfl, hp, Same.nw hp, [], upd_same, .nil⟩⟩
    rintro _ H2 ⟨p, rfl, h2⟩
    -- one more tuple
    have app : ∀ {H' : Hp} {ds : List Dd} {t : Addr} (d : Dd), FN H p H' ds → H' t = none → ∀ xs, H' p = some (.lst xs) → FN H p (L2.upd (L2.upd H' t (.tup d.vs)) p (.lst (xs ++ [.ref t]))) (ds ++ [d]) := fun d h ht xs e =>
      (h.same (Same.nw ht)).ext (upd_at e ht) (.cons ⟨_, rfl, upd_same⟩ .nil)
    -- level
    refine ⟨fun σ' H' => σ' = [some (.str nm), some (.ref a), some (.ref p), none, none, none] ∧ FN H p H' ((if v.dis = true then [.d2 "disabled" nm] else []) ++ (if v.level = 0 then [] else [.d2 "level" nm])), ?_, ?_⟩
    · refine ⟨_, rfl, a, _, dx, fs, _, rfl, h2.2.1 _ _ ea, T.cl_Logger, T.no_Logger_level, l2, rfl, _, rfl, ?_⟩
      by_cases hz : v.level = 0
      · rw [if_pos hz, show (!decide (V.int v.level = V.int 0)) = false by rw [hz]; rfl, List.append_nil]
        exact iteF ⟨rfl, h2⟩
      · rw [if_neg hz, show (!decide (V.int v.level = V.int 0)) = true by rw [decide_eq_false fun z => hz (V.int.inj z)]; rfl]
        refine iteT ?_
        obtain ⟨xs, ex, _, lx⟩ := h2.at_
        refine ⟨_, rfl, .inl ⟨rfl, _, SqL.of ex⟩, _, rfl, ssz rfl, fun t ht => ?_⟩
        refine ⟨p, _, _, rfl, rfl, upd_at ex ht, ?_, rfl, app (.d2 "level" nm) h2 ht xs ex⟩
        rw [lx, sizeLine_eq]
        split <;> simp
    rintro σ' H3 ⟨rfl, h3⟩
    -- propagate
    refine ⟨fun σ' H' => σ' = [some (.str nm), some (.ref a), some (.ref p), none, none, none] ∧ FN H p H' (aDd nm v), ?_, ?_⟩
    · refine ⟨_, rfl, a, _, dx, fs, _, rfl, h3.2.1 _ _ ea, T.cl_Logger, T.no_Logger_propagate, l3, _, rfl, ?_⟩
      unfold aDd
      cases hpr : v.prop with
      | true =>
        refine iteF ⟨rfl, ?_⟩
        rw [if_pos rfl, List.append_nil]
        exact h3
      | false =>
        refine iteT ?_
        obtain ⟨xs, ex, _, lx⟩ := h3.at_
        refine ⟨_, rfl, .inl ⟨rfl, _, SqL.of ex⟩, _, rfl, ssz rfl, fun t ht => ?_⟩
        refine ⟨p, _, _, rfl, rfl, upd_at ex ht, ?_, rfl, app (.d2 "propagate" nm) h3 ht xs ex⟩
        rw [lx, sizeLine_eq, List.length_append]
        split <;> split <;> simp
    rintro σ' H4 ⟨rfl, h4⟩
    -- filters
    obtain ⟨x4, ex4, _, lx4⟩ := h4.at_
    have ha3 := aDd_len nm v
    refine ⟨_, rfl, .inl ⟨rfl, _, SqL.of ex4⟩, ?_⟩
    refine ⟨_, rfl, a, _, dx, fs, _, rfl, h4.2.1 _ _ ea, T.cl_Logger, T.no_Logger_filters, l4, ?_⟩
    refine ⟨f, _, rfl, .inl (SqL.of (h4.2.1 _ _ ef)), ?_⟩
    refine ⟨ys.length, rfl, by omega, by omega, ?_⟩
    intro D hD
    refine lc_deeds (fun i => .d3 "filter" nm i) hD (by omega) (fun _ => rfl) (fun i H' Q' hi hk hq => ?_) fun H5 zs hk5 ez qz => ?_
    · refine ⟨_, rfl, _, rfl, ssz rfl, fun t ht => ?_⟩
      have q := hq t ht
      rw [show ((0 : Int) + (i : Int)) = ((i : Nat) : Int) by omega]
      exact q
    have h5 := h4.same hk5
    have ex5 := hk5 _ _ ex4
    have hpD : p ≠ D := ne_of_none ex4 hD
    refine ⟨p, D, _, _, rfl, rfl, ex5, ez, by rw [lx4, Paired.length qz, List.length_map, List.length_range, sizeLine_eq]; omega, ?_⟩
    have h6 := h5.ext ex5 qz
    rw [hnf] at h6
    generalize L2.upd H5 p _ = H6 at h6 ⊢
    -- handlers
    refine ⟨_, rfl, a, _, dx, fs, _, rfl, h6.2.1 _ _ ea, T.cl_Logger, T.no_Logger_handlers, l5, ?_⟩
    refine ⟨g, _, rfl, SqL.of (h6.2.1 _ _ eg), ?_⟩
    refine for_it walk_enum (fun i σ' H' => ∃ o3 o4, σ' = [some (.str nm), some (.ref a), some (.ref p), o3, o4, none] ∧ FN H p H' (aDd nm v ++ (List.range v.nf).map (fun i => .d3 "filter" nm i) ++ hDd nm 0 (v.hs.take i))) ?_ (fun i σ' H' _ ⟨_, _, _, z⟩ => SqL.of (z.2.1 _ _ eg)) ?_ ?_
    · exact ⟨_, _, rfl, by rw [List.take_zero, hDd, List.append_nil]; exact h6⟩
    · rintro i x σ' H7 H8 hi ⟨o3, o4, rfl, h7⟩ ⟨T', xi, hd, rfl, hT, rfl, e1, e2⟩
      cases e1
      obtain ⟨hx, ehx, hat⟩ := Paired.nth hP e2
      have h8 := h7.same (Same.nw (o := .tup [V.int (i : Nat), hd]) hT)
      have h8' : FN H p (L2.upd H7 T' (.tup [V.int (i : Nat), hd])) (aDd nm v ++ (List.range v.nf).map (fun i => .d3 "filter" nm i) ++ hDd nm 0 (v.hs.take i)) := h8
      refine ⟨T', _, rfl, SqT.of upd_same, rfl, ?_⟩
      refine ⟨_, _, rfl, _, _, rfl, rfl, ?_⟩
      generalize L2.upd H7 T' (.tup [V.int (i : Nat), hd]) = H8 at h8 h8' ⊢
      clear h8 h7
      have hil : i < v.hs.length := by omega
      have hlen : (hDd nm 0 (v.hs.take i)).length ≤ 102 * 100 := by
        have z := hDd_len nm (v.hs.take i) 0 fun y hy => hok.each y (List.mem_of_mem_take hy)
        rw [List.length_take] at z
        omega
      have hx100 := hok.each hx (List.mem_of_getElem? ehx)
      -- handler
      obtain ⟨x8, ex8, _, lx8⟩ := h8'.at_
      rw [List.length_append, List.length_append, List.length_map, List.length_range] at lx8
      refine ⟨_, rfl, .inl ⟨rfl, _, SqL.of ex8⟩, _, rfl, _, rfl, ssz rfl, fun t ht => ?_⟩
      refine ⟨p, _, _, rfl, rfl, upd_at ex8 ht, by rw [lx8, sizeLine_eq]; omega, ?_⟩
      have h9 := app (.d3 "handler" nm i) h8' ht x8 ex8
      have h9' : FN H p (L2.upd (L2.upd H8 t (.tup [.str "handler", .str nm, .int (i : Nat)])) p (.lst (x8 ++ [.ref t]))) _ := h9
      generalize L2.upd (L2.upd H8 t (.tup [.str "handler", .str nm, .int (i : Nat)])) p (.lst (x8 ++ [.ref t])) = H9 at h9' ⊢
      clear h9
      obtain ⟨ha, C, dh, fh, fl, yh, rfl, eha, c1, c2, c3, m1, m2, efl, hfl⟩ := hat
      -- its level
      refine ⟨fun σ' H' => σ' = [some (.str nm), some (.ref a), some (.ref p), some (.int (i : Nat)), some (.ref ha), none] ∧ FN H p H' (aDd nm v ++ (List.range v.nf).map (fun i => .d3 "filter" nm i) ++ hDd nm 0 (v.hs.take i) ++ (.d3 "handler" nm i :: (if hx.level = 0 then [] else [.d3 "level" nm i]))), ?_, ?_⟩
      · refine ⟨_, rfl, ha, C, dh, fh, _, rfl, h9'.2.1 _ _ eha, c1, c2, m1, rfl, _, rfl, ?_⟩
        by_cases hz : hx.level = 0
        · rw [if_pos hz, show (!decide (V.int hx.level = V.int 0)) = false by rw [hz]; rfl]
          exact iteF ⟨rfl, h9'⟩
        · rw [if_neg hz, show (!decide (V.int hx.level = V.int 0)) = true by rw [decide_eq_false fun z => hz (V.int.inj z)]; rfl]
          refine iteT ?_
          obtain ⟨x9, ex9, _, lx9⟩ := h9'.at_
          rw [List.length_append, List.length_append, List.length_append, List.length_map, List.length_range] at lx9
          refine ⟨_, rfl, .inl ⟨rfl, _, SqL.of ex9⟩, _, rfl, _, rfl, ssz rfl, fun t ht => ?_⟩
          refine ⟨p, _, _, rfl, rfl, upd_at ex9 ht, by rw [lx9, List.length_singleton, sizeLine_eq]; omega, rfl, ?_⟩
          have z := app (.d3 "level" nm i) h9' ht x9 ex9
          rw [List.append_assoc] at z
          exact z
      rintro σ' Ha ⟨rfl, ha'⟩
      obtain ⟨xa, exa, _, lxa⟩ := ha'.at_
      rw [List.length_append, List.length_append, List.length_append, List.length_map, List.length_range, List.length_cons] at lxa
      have hl2 : (if hx.level = 0 then ([] : List Dd) else [.d3 "level" nm i]).length ≤ 1 := by split <;> simp
      refine ⟨_, rfl, .inl ⟨rfl, _, SqL.of exa⟩, ?_⟩
      refine ⟨_, rfl, ha, C, dh, fh, _, rfl, ha'.2.1 _ _ eha, c1, c3, m2, ?_⟩
      refine ⟨fl, _, rfl, .inl (SqL.of (ha'.2.1 _ _ efl)), ?_⟩
      refine ⟨yh.length, rfl, by omega, by omega, ?_⟩
      intro D hD
      refine lc_deeds (fun n => .d4 "filter" nm i n) hD (by omega) (fun _ => rfl) (fun n H' Q' hn hk hq => ?_) fun Hb zs hkb ez qz => ?_
      · refine ⟨_, rfl, _, rfl, _, rfl, ssz rfl, fun t ht => ?_⟩
        have q := hq t ht
        rw [show ((0 : Int) + (n : Int)) = ((n : Nat) : Int) by omega]
        exact q
      have hb := ha'.same hkb
      have exb := hkb _ _ exa
      refine ⟨p, D, _, _, rfl, rfl, exb, ez, by rw [lxa, Paired.length qz, List.length_map, List.length_range, sizeLine_eq]; omega, ?_⟩
      refine ⟨_, _, rfl, ?_⟩
      have z := hb.ext exb qz
      rw [hfl] at z
      rw [take_nth ehx, hDd_snoc, List.length_take, Nat.zero_add, Nat.min_eq_left (Nat.le_of_lt hil)]
      simp only [List.append_assoc] at z ⊢
      exact z
    · rintro σ' H7 ⟨o3, o4, rfl, h7⟩
      rw [hhl, List.take_length] at h7
      exact ⟨_, rfl, k p H7 h7⟩
end
end Ry
namespace Ry
open PySem PySem.Spec PyProof.Rows L2 He RyH
open C8 (pss_cut tCut Cal Met Mak pe_c pe_mk pe_mt pe_mt0 pe_gc)
/-! ### a list grows while a dict is walked -/
theorem upd_sw {H : Hp} {a b : Addr} {o u : HO} (h : a ≠ b) : L2.upd (L2.upd H a o) b u = L2.upd (L2.upd H b u) a o := by
  funext c
  by_cases h1 : c = a
  · rw [h1, upd_ne h, upd_same, upd_same]
  · by_cases h2 : c = b
    · rw [h2, upd_same, upd_ne (Ne.symm h), upd_same]
    · rw [upd_ne h2, upd_ne h1, upd_ne h1, upd_ne h2]
theorem FN.lockExt {H H' H'' : Hp} {p q lm : Addr} {od : Obj} {kvs : List (Key × V)} {ds es : List Dd} {xs zs : List V} (hlm : H lm = some (.dK kvs)) (h : FN H p (L2.upd H' lm (.dK kvs)) ds) (e : H' lm = some (.frz od (.dK kvs))) (g : FN H' q H'' es)
    (ex : H'' p = some (.lst xs)) (qz : Paired (DdAt H'') zs es) : L2.upd H'' p (.lst (xs ++ zs)) lm = some (.frz od (.dK kvs)) ∧ FN H p (L2.upd (L2.upd H'' p (.lst (xs ++ zs))) lm (.dK kvs)) (ds ++ es) := by
  have hpl : p ≠ lm := fun z => by
    have := h.1
    rw [z, hlm] at this
    cases this
  have e2 : H'' lm = some (.frz od (.dK kvs)) := g.2.1 _ _ e
  have sm : Same (L2.upd H' lm (.dK kvs)) (L2.upd H'' lm (.dK kvs)) := fun b o z => by
    by_cases hb : b = lm
    · rw [hb, upd_same] at z ⊢
      exact z
    · rw [upd_ne hb] at z ⊢
      exact g.2.1 _ _ z
  refine ⟨by rw [upd_ne hpl.symm]; exact e2, ?_⟩
  rw [upd_sw hpl]
  refine (h.same sm).ext (by rw [upd_ne hpl]; exact ex) (Paired.impl qz fun _ _ z => z.kt fun c ws w => ?_)
  rw [upd_ne (fun z => by rw [z, e2] at w; cases w)]
  exact w
/-- what is no dict stays -/
def KpD (H H' : Hp) : Prop := ∀ b o, H b = some o → (∀ kvs, o ≠ .dK kvs) → H' b = some o
theorem HVat.kd {K : PySem.W.Frag} {H H' : Hp} {v : V} {x : HV} (h : HVat K H v x) (k : KpD H H') : HVat K H' v x := by
  obtain ⟨a, C, dx, fs, f, ys, e, e1, c1, c2, c3, l1, l2, e2, e3⟩ := h
  exact ⟨a, C, dx, fs, f, ys, e, k _ _ e1 (fun _ z => nomatch z), c1, c2, c3, l1, l2, k _ _ e2 (fun _ z => nomatch z), e3⟩
theorem LVat.kd {K : PySem.W.Frag} {H H' : Hp} {a : Addr} {x : LV} (h : LVat K H a x) (k : KpD H H') : LVat K H' a x := by
  obtain ⟨dx, fs, f, g, ys, hvs, e1, l1, l2, l3, l4, l5, e2, e3, e4, e5⟩ := h
  exact ⟨dx, fs, f, g, ys, hvs, k _ _ e1 (fun _ z => nomatch z), l1, l2, l3, l4, l5, k _ _ e2 (fun _ z => nomatch z), e3, k _ _ e4 (fun _ z => nomatch z), Paired.impl e5 fun _ _ z => z.kd k⟩
theorem KpD.un {H H' : Hp} {lm : Addr} {kvs kvs' : List (Key × V)} (h : Same H (L2.upd H' lm (.dK kvs))) (e : H lm = some (.dK kvs')) : KpD H H' := fun b o z n => by
  have hb : b ≠ lm := fun q => by
    rw [q, e] at z
    cases z
    exact n _ rfl
  have w := h _ _ z
  rw [upd_ne hb] at w
  exact w
/-! ### what of a yard has deeds -/
def YdV (K : PySem.W.Frag) (H : Hp) (y : Addr) (bar : Int) (rt : LV) (rows : List (Str × LV)) : Prop := ∃ dy fy r lm rws, H y = some (.ins (ga K "Yard") dy fy) ∧ lk fy "bar_level" = some (.int bar) ∧ lk fy "root" = some (.ref r) ∧ lk fy "logger_map" = some (.ref lm) ∧ lk fy "loggers" = none ∧ H lm = some (.dK (rws.map rowE)) ∧
  LVat K H r rt ∧ (rws.map (·.1)).Nodup ∧ Paired (fun (x : Str × Addr) (z : Str × LV) => x.1 = z.1 ∧ LVat K H x.2 z.2) rws rows
theorem YdV.same {K : PySem.W.Frag} {H H' : Hp} {y : Addr} {bar : Int} {rt : LV} {rows : List (Str × LV)} (h : YdV K H y bar rt rows) (k : Same H H') : YdV K H' y bar rt rows := by
  obtain ⟨dy, fy, r, lm, rws, ey, l1, l2, l3, l4, elm, hrt, hnd, hP⟩ := h
  exact ⟨dy, fy, r, lm, rws, k _ _ ey, l1, l2, l3, l4, k _ _ elm, hrt.same k, hnd, Paired.impl hP fun _ _ z => ⟨z.1, z.2.same k⟩⟩
def bDd (bar : Int) : List Dd := if bar = 0 then [] else [.bar]
def rDd (rows : List (Str × LV)) : List Dd := rows.flatMap fun x => dOf x.1 x.2
theorem rDd_len : ∀ {rows : List (Str × LV)}, (∀ x ∈ rows, LVok x.2) → (rDd rows).length ≤ 10303 * rows.length
  | [], _ => Nat.zero_le _
  | x :: rows, h => by
    have h1 := rDd_len (rows := rows) fun z hz => h z (List.mem_cons_of_mem _ hz)
    have h2 := dOf_len x.1 x.2 (h x (List.mem_cons_self ..))
    show (dOf x.1 x.2 ++ rDd rows).length ≤ _
    rw [List.length_append, List.length_cons]
    omega
theorem rDd_snoc (rows : List (Str × LV)) (x : Str × LV) : rDd (rows ++ [x]) = rDd rows ++ dOf x.1 x.2 := by
  unfold rDd
  rw [List.flatMap_append]
  simp
theorem bDd_len (b : Int) : (bDd b).length ≤ 1 := by
  unfold bDd
  split <;> simp
def spDeeds (K : PySem.W.Frag) : Sp := fun vs H Q _ => ∃ (y : Addr) (bar : Int) (rt : LV) (rows : List (Str × LV)), vs = [.ref y] ∧ YdV K H y bar rt rows ∧ LVok rt ∧ (∀ x ∈ rows, LVok x.2) ∧ rows.length ≤ 100 ∧
  ∀ p H', FN H p H' (sortD (bDd bar ++ dOf "" rt ++ rDd rows)) → Q (.ref p) H'
section
variable {P : Program} {w : World} {K : PySem.W.Frag} {mg : Str → Option Value} {base : Heap}
theorem sc_deeds : FnScope ["yard", "found", "name"] ["yard"] (defScope s_deeds) := ⟨rfl, rfl, rfl, by decide +kernel, rfl, by decide +kernel, by decide +kernel⟩
theorem cal_deeds (T : Txt w K mg) : Cal P w K mg base 2 "deeds" (spDeeds K) [] := by
  obtain ⟨fd, F⟩ := T.df_deeds
  have c_deeds_of := cal_deeds_of (P := P) (base := base) T
  refine ⟨_, fd, ["yard"], [], F.ok sc_deeds (fun vs H Q E h => ?_) (fun cdv A outer s H vs Q E hr h => ?_), T.m_deeds, F.kp, F.bindsN (fun _ _ _ _ _ _ us hl => match us, hl with | [_], _ => rfl), .nil⟩
  · obtain ⟨_, _, _, _, rfl, _⟩ := h
    rfl
  · obtain ⟨y, bar, rt, rows, rfl, hv, hok, hrows, hlen, k⟩ := h
    refine ⟨_, PSs.nox (pss_cons (ps_set (i := 1) sc_deeds.nd rfl (Or.inl rfl) (RyT.pe_cutE (pe_ifExp (pt_cmpR op_ne (pe_fld (pv 0) rfl) pe_int (nomark _)) (pe_lst (pa_cons (pe_tup (pa_cons pe_str pa_nil)) pa_nil)) (pe_lst pa_nil))))
      (pss_cons (ps_expr (pe_bm PySem.F.plainAttrs_list PySem.F.slot_list_extend PySem.F.type_list_extend mt_extend (pv 1) (pa_cons (pe_c c_deeds_of hr (by decide) (by rfl) (pa_cons pe_str (pa_cons (pe_fld (pv 0) rfl) pa_nil))) pa_nil)))
      (pss_cons (ps_lock (ps_for PassesOwn.never rfl (pi_keys (pe_fld (pv 0) rfl)) (pg_name (i := 2) sc_deeds.nd rfl (Or.inl rfl))
        (pss_one (ps_expr (pe_bm PySem.F.plainAttrs_list PySem.F.slot_list_extend PySem.F.type_list_extend mt_extend (pv 1) (pa_cons (pe_c c_deeds_of hr (by decide) (by rfl) (pa_cons (pv 2) (pa_cons (pe_dget (hu_of hr) (pe_fld (pv 0) rfl) (pv 2) (fun _ _ => rfl)) pa_nil))) pa_nil))))))
      (pss_one (ps_ret (pe_callB (RyD.cr_sortedDat (enc := Dd.enc) (F := DdAt) hr.units dd_alike (.inl dd_tup)) (by rfl) T.f_sorted (by decide +kernel) (pa_cons (pv 1) pa_nil))))))), ?_⟩
    obtain ⟨dy, fy, r, lm, rws, ey, l1, l2, l3, _, elm, hrt, hnd, hP⟩ := hv
    have hrl : rws.length = rows.length := Paired.length hP
    refine ⟨fun w H2 => ∃ p, w = .ref p ∧ FN H p H2 (bDd bar), ?_, ?_⟩
    · refine ⟨_, rfl, y, _, dy, fy, _, rfl, ey, T.cl_Yard, T.no_Yard_bar_level, l1, rfl, _, rfl, ?_⟩
      unfold bDd
      by_cases hz : bar = 0
      · rw [if_pos hz, show (!decide (V.int bar = V.int 0)) = false by rw [hz]; rfl]
        refine iteF ?_
        exact ⟨ssz rfl, fun p hp => ⟨p, rfl, hp, Same.nw hp, [], upd_same, .nil⟩⟩
      · rw [if_neg hz, show (!decide (V.int bar = V.int 0)) = true by rw [decide_eq_false fun z => hz (V.int.inj z)]; rfl]
        refine iteT ?_
        refine ⟨ssz rfl, fun t ht => ⟨ssz rfl, fun p hp => ⟨p, rfl, was_none hp, Same.tr (Same.nw ht) (Same.nw hp), [.ref t], upd_same, .cons ⟨t, rfl, ?_⟩ .nil⟩⟩⟩
        rw [upd_ne (ne_of_none upd_same hp), upd_same]
        rfl
    rintro _ H2 ⟨p, rfl, h2⟩
    have hb1 := bDd_len bar
    -- the root
    obtain ⟨x2, ex2, _, lx2⟩ := h2.at_
    refine ⟨_, rfl, .inl ⟨rfl, _, SqL.of ex2⟩, ?_⟩
    refine ⟨_, rfl, y, _, dy, fy, _, rfl, h2.2.1 _ _ ey, T.cl_Yard, T.no_Yard_root, l2, ?_⟩
    refine ⟨"", r, rt, rfl, hrt.same h2.2.1, hok, fun q H3 h3 => ?_⟩
    obtain ⟨z3, ez3, qz3, lz3⟩ := h3.at_
    have hd0 := dOf_len "" rt hok
    refine ⟨p, q, _, _, rfl, rfl, h3.2.1 _ _ ex2, ez3, by rw [lx2, lz3, sizeLine_eq]; omega, ?_⟩
    have h4 := (h2.same h3.2.1).ext (h3.2.1 _ _ ex2) qz3
    generalize L2.upd H3 p _ = H4 at h4 ⊢
    clear h3 h2 ex2 ez3 qz3
    -- the others
    have elm4 := h4.2.1 _ _ elm
    refine ⟨lm, .dK (rws.map rowE), elm4, True.intro, fun od => ?_⟩
    have hyl : y ≠ lm := ne_of ey elm fun z => nomatch z
    have e4 := h4.2.1 _ _ ey
    refine ⟨_, rfl, y, _, dy, fy, _, rfl, by rw [upd_ne hyl]; exact e4, T.cl_Yard, T.no_Yard_logger_map, l3, ?_⟩
    refine ⟨lm, od, rfl, .inl ⟨_, upd_same, ?_⟩⟩
    refine for_it walk_keys (fun i σ' H' => ∃ o2, σ' = [some (.ref y), some (.ref p), o2] ∧ H' lm = some (.frz od (.dK (rws.map rowE))) ∧ FN H p (L2.upd H' lm (.dK (rws.map rowE))) (bDd bar ++ dOf "" rt ++ rDd (rows.take i))) ?_ (fun i σ' H' _ ⟨_, _, z, _⟩ => z) ?_ ?_
    · refine ⟨_, rfl, upd_same, ?_⟩
      rw [upd_upd, List.take_zero, show rDd [] = [] from rfl, List.append_nil]
      have e : L2.upd H4 lm (.dK (rws.map rowE)) = H4 := by
        funext c
        by_cases h : c = lm
        · rw [h, upd_same, elm4]
        · rw [upd_ne h]
      rw [e]
      exact h4
    · rintro i x σ' H5 H6 hi ⟨o2, rfl, e5, h5⟩ ⟨rfl, k0, v0, ek, rfl⟩
      rw [List.length_map] at hi
      have er : rws[i]? = some rws[i] := List.getElem?_eq_getElem hi
      rw [List.getElem?_map, er] at ek
      obtain ⟨z, ez, hk, hat⟩ := Paired.nth hP er
      have hk0 : k0 = kS rws[i].1 := (congrArg Prod.fst (Option.some.inj ek)).symm
      subst hk0
      have kd := KpD.un h5.2.1 elm
      have hok2 := hrows z (List.mem_of_getElem? ez)
      have hpl : p ≠ lm := fun z => by
        have := h5.1
        rw [z, elm] at this
        cases this
      obtain ⟨x5, ex5, _, lx5⟩ := h5.at_
      rw [upd_ne hpl] at ex5
      refine ⟨_, rfl, .inl ⟨rfl, _, SqL.of ex5⟩, ?_⟩
      refine ⟨_, rfl, _, rfl, y, _, dy, fy, _, rfl, kd _ _ ey (fun _ z => nomatch z), T.cl_Yard, T.no_Yard_logger_map, l3, ?_⟩
      refine ⟨_, rfl, lm, .ref rws[i].2, rfl, .inl ⟨_, kS rws[i].1, .inr ⟨od, e5⟩, rfl, ?_⟩, ?_⟩
      · rw [valV_row, lookup_nd hnd er]
        rfl
      refine ⟨rws[i].1, rws[i].2, z.2, rfl, hat.kd kd, hok2, fun q H7 h7 => ?_⟩
      obtain ⟨z7, ez7, qz7, lz7⟩ := h7.at_
      have hd7 := dOf_len rws[i].1 z.2 hok2
      have hr7 := rDd_len (rows := rows.take i) fun w hw => hrows w (List.mem_of_mem_take hw)
      rw [List.length_take] at hr7
      rw [List.length_append, List.length_append] at lx5
      have hmin : min i rows.length ≤ 100 := by omega
      have ex7 := h7.2.1 _ _ ex5
      refine ⟨p, q, _, _, rfl, rfl, ex7, ez7, by rw [lx5, lz7, sizeLine_eq]; omega, ?_⟩
      obtain ⟨f1, f2⟩ := FN.lockExt elm h5 e5 h7 ex7 qz7
      refine ⟨_, rfl, f1, ?_⟩
      rw [take_nth ez, rDd_snoc, ← List.append_assoc, ← hk]
      exact f2
    · rintro σ' H5 ⟨o2, rfl, e5, h5⟩
      rw [List.length_map, hrl, List.take_length] at h5
      refine ⟨e5, ?_⟩
      obtain ⟨x5, ex5, q5, lx5⟩ := h5.at_
      have hr7 := rDd_len (rows := rows) hrows
      rw [List.length_append, List.length_append] at lx5
      refine ⟨_, rfl, ?_⟩
      refine ⟨p, x5, _, rfl, SqL.of ex5, q5, fun v d h => h.dp, by rw [List.length_append, List.length_append, sizeLine_eq]; omega, fun d _ => dd_depth d, fun ws q hq hl hqn => ?_⟩
      refine k q _ ⟨Same.was h5.2.1 hqn, Same.tr h5.2.1 (Same.nw hqn), ws, upd_same, Paired.impl hq fun _ _ z => z.kt fun c zs w => upd_at w hqn⟩
end
end Ry
namespace Ry
open PySem PySem.Spec PyProof.Rows L2 He RyH
open C8 (pss_cut tCut Cal Met Mak pe_c pe_mk pe_mt pe_mt0 pe_gc)
/-! ### what of a plan has deeds -/
def HPV (N : Addr → Prop) (H : Hp) (v : V) (x : HV) : Prop := ∃ a kv f ys, v = .ref a ∧ N a ∧ H a = some (.dK kv) ∧ valV kv (kS "level") = some (.int x.level) ∧ valV kv (kS "filters") = some (.ref f) ∧ N f ∧ H f = some (.lst ys) ∧ ys.length = x.nf
def RWV (N : Addr → Prop) (H : Hp) (hps : List V) (ra : Addr) (x : LV) : Prop := ∃ kv f h ys ats, N ra ∧ H ra = some (.dK kv) ∧ valV kv (kS "disabled") = some (.bl x.dis) ∧ valV kv (kS "level") = some (.int x.level) ∧ valV kv (kS "propagate") = some (.bl x.prop) ∧
  valV kv (kS "filters") = some (.ref f) ∧ valV kv (kS "handlers") = some (.ref h) ∧ N f ∧ H f = some (.lst ys) ∧ ys.length = x.nf ∧ N h ∧ H h = some (.lst (ats.map natV)) ∧ Paired (fun (n : Nat) (z : HV) => ∃ hv, hps[n]? = some hv ∧ HPV N H hv z) ats x.hs
def PVat (N : Addr → Prop) (H : Hp) (p lg : Addr) (bar : Int) (rws : List (Str × Addr)) (rows : List (Str × LV)) : Prop := ∃ kv hs hps, N p ∧ H p = some (.dK kv) ∧ valV kv (kS "bar") = some (.int bar) ∧ valV kv (kS "handlers") = some (.ref hs) ∧ valV kv (kS "loggers") = some (.ref lg) ∧ N hs ∧ H hs = some (.lst hps) ∧
  (rws.map (·.1)).Nodup ∧ Paired (fun (x : Str × Addr) (z : Str × LV) => x.1 = z.1 ∧ RWV N H hps x.2 z.2) rws rows
theorem HPV.kp {N M : Addr → Prop} {H H' : Hp} {v : V} {x : HV} (h : HPV N H v x) (k : Kp M H H') (hn : ∀ b, N b → ¬ M b) : HPV N H' v x := by
  obtain ⟨a, kv, f, ys, e, n1, e1, l1, l2, n2, e2, e3⟩ := h
  exact ⟨a, kv, f, ys, e, n1, k _ _ e1 (hn _ n1), l1, l2, n2, k _ _ e2 (hn _ n2), e3⟩
theorem RWV.kp {N M : Addr → Prop} {H H' : Hp} {hps : List V} {ra : Addr} {x : LV} (h : RWV N H hps ra x) (k : Kp M H H') (hn : ∀ b, N b → ¬ M b) : RWV N H' hps ra x := by
  obtain ⟨kv, f, g, ys, ats, n1, e1, l1, l2, l3, l4, l5, n2, e2, e3, n3, e4, e5⟩ := h
  exact ⟨kv, f, g, ys, ats, n1, k _ _ e1 (hn _ n1), l1, l2, l3, l4, l5, n2, k _ _ e2 (hn _ n2), e3, n3, k _ _ e4 (hn _ n3), Paired.impl e5 fun _ _ ⟨hv, a, b⟩ => ⟨hv, a, b.kp k hn⟩⟩
theorem PVat.kp {N M : Addr → Prop} {H H' : Hp} {p lg : Addr} {bar : Int} {rws : List (Str × Addr)} {rows : List (Str × LV)} (h : PVat N H p lg bar rws rows) (k : Kp M H H') (hn : ∀ b, N b → ¬ M b) : PVat N H' p lg bar rws rows := by
  obtain ⟨kv, hs, hps, n1, e1, l1, l2, l3, n2, e2, nd, e3⟩ := h
  exact ⟨kv, hs, hps, n1, k _ _ e1 (hn _ n1), l1, l2, l3, n2, k _ _ e2 (hn _ n2), nd, Paired.impl e3 fun _ _ z => ⟨z.1, z.2.kp k hn⟩⟩
def WAt (H : Hp) (v : V) (x : Str × Bool) : Prop := ∃ t, v = .ref t ∧ H t = some (.tup [.str x.1, .bl x.2])
def wsD (v : LV) : List (Str × Bool) := [("disabled", v.dis), ("level", !decide (V.int v.level = V.int 0)), ("propagate", !v.prop)]
theorem wsD_eq (nm : Str) (v : LV) : ((wsD v).filter (·.2)).map (fun x => Dd.d2 x.1 nm) = aDd nm v := by
  unfold wsD aDd
  by_cases hz : v.level = 0
  · rw [hz]
    cases v.dis <;> cases v.prop <;> simp
  · have e : decide (V.int v.level = V.int 0) = false := decide_eq_false fun z => hz (V.int.inj z)
    rw [e, if_neg hz]
    cases v.dis <;> cases v.prop <;> simp
theorem filt_nth {α : Type} {xs : List α} {i : Nat} {x : α} {f : α → Bool} (h : xs[i]? = some x) : (xs.take (i + 1)).filter f = (xs.take i).filter f ++ (if f x = true then [x] else []) := by
  rw [take_nth h, List.filter_append]
  cases e : f x <;> simp [e]
def spRowDeeds : Sp := fun vs H Q _ => ∃ (p lg : Addr) (bar : Int) (rws : List (Str × Addr)) (rows : List (Str × LV)) (N : Addr → Prop) (i : Nat) (nm : Str) (v : LV), vs = [.ref p, .str nm] ∧ PVat N H p lg bar rws rows ∧ Rd H lg (.dK (rws.map rowE)) ∧ rows[i]? = some (nm, v) ∧ LVok v ∧
  ∀ q H', FN H q H' (dOf nm v) → Q (.ref q) H'
section
variable {P : Program} {w : World} {K : PySem.W.Frag} {mg : Str → Option Value} {base : Heap}
theorem sc_law_row_deeds : FnScope ["_law_plan_here", "_law_name", "_law_row", "_law_found", "_law_words", "_law_place", "_law_at", "_law_one", "_law_word", "_law_is_there", "_law_number"] ["_law_plan_here", "_law_name"] (defScope s_law_row_deeds) := ⟨rfl, rfl, rfl, by decide +kernel, rfl, by decide +kernel, by decide +kernel⟩
theorem cal_law_row_deeds (T : Txt w K mg) : Cal P w K mg base 1 "_law_row_deeds" (spRowDeeds) [] := by
  obtain ⟨fd, F⟩ := T.df_law_row_deeds
  refine ⟨_, fd, ["_law_plan_here", "_law_name"], [], F.ok sc_law_row_deeds (fun vs H Q E h => ?_) (fun cdv A outer s H vs Q E hr h => ?_), T.m_law_row_deeds, F.kp, F.bindsN (fun _ _ _ _ _ _ us hl => match us, hl with | [_, _], _ => rfl), .nil⟩
  · obtain ⟨_, _, _, _, _, _, _, _, _, rfl, _⟩ := h
    rfl
  · obtain ⟨p, lg, bar, rws, rows, N, i, nm, v, rfl, hv, hlg, hi, hok, k⟩ := h
    refine ⟨_, PSs.nox (pss_cons (ps_par (i := 2) (j := 3) (by rfl) sc_law_row_deeds.nd rfl rfl (by decide) rfl rfl (pa_cons (pe_dget (hu_of hr) (pe_dget (hu_of hr) (pv 0) pe_str (fun _ _ => rfl)) (pv 1) (fun _ _ => rfl)) (pa_cons (pe_lst pa_nil) pa_nil)) (by rfl))
      (pss_cons (ps_set (i := 4) sc_law_row_deeds.nd rfl (Or.inl rfl) (pe_lst (pa_cons (pe_tup (pa_cons pe_str (pa_cons (pe_dget (hu_of hr) (pv 2) pe_str (fun _ _ => rfl)) pa_nil))) (pa_cons (pe_tup (pa_cons pe_str (pa_cons (pe_cmpR op_ne (pe_dget (hu_of hr) (pv 2) pe_str (fun _ _ => rfl)) pe_int (nomark _)) pa_nil))) (pa_cons (pe_tup (pa_cons pe_str (pa_cons (pe_not (pe_dget (hu_of hr) (pv 2) pe_str (fun _ _ => rfl))) pa_nil))) pa_nil)))))
      (pss_cons (ps_expr (pe_bm PySem.F.plainAttrs_list PySem.F.slot_list_extend PySem.F.type_list_extend mt_extend (pv 3) (pa_cons (pe_lc (own := [("_law_word", 8), ("_law_is_there", 9)]) (g := gTup K 2 (gCons (gName 8) (gCons (gName 9) gNil))) rfl sc_law_row_deeds.nd (pi_list (pv 4)) (blkOk_by (N := ["_law_plan_here", "_law_name", "_law_row", "_law_found", "_law_words", "_law_place", "_law_at", "_law_one", "_law_word", "_law_is_there", "_law_number"]) (sc := defScope s_law_row_deeds) (own := [("_law_word", 8), ("_law_is_there", 9)]) (by decide +kernel)) (fun _ _ _ _ _ => pg_tup rfl (pgs_cons (pg_name (i := 8) sc_law_row_deeds.nd rfl (Or.inl rfl)) (pgs_cons (pg_name (i := 9) sc_law_row_deeds.nd rfl (Or.inl rfl)) pgs_nil))) (fun _ _ _ _ _ => pts_one (pt_val (pv 9))) (fun _ _ _ _ _ => (pe_tup (pa_cons (pv 8) (pa_cons (pv 1) pa_nil))))) pa_nil)))
      (pss_cons (ps_expr (pe_bm PySem.F.plainAttrs_list PySem.F.slot_list_extend PySem.F.type_list_extend mt_extend (pv 3) (pa_cons (pe_lc (own := [("_law_place", 5)]) rfl sc_law_row_deeds.nd (pi_range1 (by rfl) T.f_range (pa_cons (pe_callB (id := "len") call_len_seq (by rfl) T.f_len PySem.boot_len (pa_cons (pe_dget (hu_of hr) (pv 2) pe_str (fun _ _ => rfl)) pa_nil)) pa_nil)) (blkOk_by (N := ["_law_plan_here", "_law_name", "_law_row", "_law_found", "_law_words", "_law_place", "_law_at", "_law_one", "_law_word", "_law_is_there", "_law_number"]) (sc := defScope s_law_row_deeds) (own := [("_law_place", 5)]) (by decide +kernel)) (fun _ _ _ _ _ => pg_name (i := 5) sc_law_row_deeds.nd rfl (Or.inl rfl)) (fun _ _ _ _ _ => pts_nil) (fun _ _ _ _ _ => (pe_tup (pa_cons pe_str (pa_cons (pv 1) (pa_cons (pv 5) pa_nil)))))) pa_nil)))
      (pss_cons (ps_for PassesOwn.never rfl (pi_enum (by rfl) T.f_enumerate (pa_cons (pe_dget (hu_of hr) (pv 2) pe_str (fun _ _ => rfl)) pa_nil)) (pg_tup rfl (pgs_cons (pg_name (i := 5) sc_law_row_deeds.nd rfl (Or.inr rfl)) (pgs_cons (pg_name (i := 6) sc_law_row_deeds.nd rfl (Or.inl rfl)) pgs_nil)))
        (pss_cons (ps_set (i := 7) sc_law_row_deeds.nd rfl (Or.inl rfl) (pe_ix ix_list (pe_dget (hu_of hr) (pv 0) pe_str (fun _ _ => rfl)) (pv 6) (fun _ _ => rfl)))
        (pss_cons (ps_expr (pe_bm PySem.F.plainAttrs_list PySem.F.slot_list_extend PySem.F.type_list_extend mt_extend (pv 3) (pa_cons (pe_op op_cat (pe_lst (pa_cons (pe_tup (pa_cons pe_str (pa_cons (pv 1) (pa_cons (pv 5) pa_nil)))) pa_nil)) (pe_op op_rep (pe_lst (pa_cons (pe_tup (pa_cons pe_str (pa_cons (pv 1) (pa_cons (pv 5) pa_nil)))) pa_nil)) (pe_callTy (T := "int") call_int1 (by rfl) T.f_int (by decide +kernel) (pa_cons (pe_cmpR op_ne (pe_dget (hu_of hr) (pv 7) pe_str (fun _ _ => rfl)) pe_int (nomark _)) pa_nil)))) pa_nil)))
        (pss_one (ps_expr (pe_bm PySem.F.plainAttrs_list PySem.F.slot_list_extend PySem.F.type_list_extend mt_extend (pv 3) (pa_cons (pe_lc (own := [("_law_number", 10)]) rfl sc_law_row_deeds.nd (pi_range1 (by rfl) T.f_range (pa_cons (pe_callB (id := "len") call_len_seq (by rfl) T.f_len PySem.boot_len (pa_cons (pe_dget (hu_of hr) (pv 7) pe_str (fun _ _ => rfl)) pa_nil)) pa_nil)) (blkOk_by (N := ["_law_plan_here", "_law_name", "_law_row", "_law_found", "_law_words", "_law_place", "_law_at", "_law_one", "_law_word", "_law_is_there", "_law_number"]) (sc := defScope s_law_row_deeds) (own := [("_law_number", 10)]) (by decide +kernel)) (fun _ _ _ _ _ => pg_name (i := 10) sc_law_row_deeds.nd rfl (Or.inl rfl)) (fun _ _ _ _ _ => pts_nil) (fun _ _ _ _ _ => (pe_tup (pa_cons pe_str (pa_cons (pv 1) (pa_cons (pv 5) (pa_cons (pv 10) pa_nil))))))) pa_nil)))))))
      (pss_one (ps_ret (pv 3)))))))), ?_⟩
    obtain ⟨kv, hs, hps, np, ep, l1, l2, l3, nh, eh, hnd, hP⟩ := hv
    have hrl : rws.length = rows.length := Paired.length hP
    have hil : i < rws.length := by
      rcases Nat.lt_or_ge i rows.length with z | z
      · omega
      · rw [List.getElem?_eq_none z] at hi
        cases hi
    have er : rws[i]? = some rws[i] := List.getElem?_eq_getElem hil
    obtain ⟨z0, ez0, hk0, hat⟩ := Paired.nth hP er
    rw [hi] at ez0
    cases ez0
    obtain ⟨kr, f, g, ys, ats, nr, era, r1, r2, r3, r4, r5, nf, ef, hnf, ng, eg, hA⟩ := hat
    have hvn := hok.nf
    have hnf : ys.length = v.nf := hnf
    have hh100 := hok.hs
    have hal : ats.length = v.hs.length := Paired.length hA
    have hlk : valV (rws.map rowE) (kS nm) = some (.ref rws[i].2) := by
      have e : nm = rws[i].1 := hk0.symm
      rw [valV_row, e, lookup_nd hnd er]
      rfl
    -- row, found
    refine ⟨_, rfl, p, _, rfl, dget ep l3, _, rfl, lg, .ref rws[i].2, rfl, .inl ⟨_, kS nm, hlg, rfl, hlk.symm⟩, ssz rfl, fun q hq => ⟨_, _, rfl, ?_⟩⟩
    generalize rws[i].2 = ra at era nr
    have h1 : FN H q (L2.upd H q (.lst [])) [] := ⟨hq, Same.nw hq, [], upd_same, .nil⟩
    generalize L2.upd H q (.lst []) = H1 at h1 ⊢
    have G1 := h1.2.1
    -- words
    refine ⟨_, rfl, ra, _, rfl, dget (G1 _ _ era) r1, ssz rfl, fun t1 ht1 => ?_⟩
    have s1 := Same.nw (o := .tup [.str "disabled", .bl v.dis]) ht1
    refine ⟨_, rfl, ra, _, rfl, dget (s1 _ _ (G1 _ _ era)) r2, rfl, ssz rfl, fun t2 ht2 => ?_⟩
    have s2 := Same.nw (o := .tup [.str "level", .bl (!decide (V.int v.level = V.int 0))]) ht2
    refine ⟨_, rfl, ra, _, rfl, dget (s2 _ _ (s1 _ _ (G1 _ _ era))) r3, _, rfl, ssz rfl, fun t3 ht3 => ⟨ssz rfl, fun l hl => ?_⟩⟩
    have s3 := Same.nw (o := .tup [.str "propagate", .bl (!v.prop)]) ht3
    have s4 := Same.nw (o := .lst [.ref t1, .ref t2, .ref t3]) hl
    have w1 := s4 _ _ (s3 _ _ (s2 _ _ (upd_same (H := H1) (a := t1) (o := .tup [.str "disabled", .bl v.dis]))))
    have w2 := s4 _ _ (s3 _ _ (upd_same (a := t2) (o := .tup [.str "level", .bl (!decide (V.int v.level = V.int 0))])))
    have w3 := s4 _ _ (upd_same (a := t3) (o := .tup [.str "propagate", .bl (!v.prop)]))
    have wl := upd_same (H := L2.upd (L2.upd (L2.upd H1 t1 (.tup [.str "disabled", .bl v.dis])) t2 (.tup [.str "level", .bl (!decide (V.int v.level = V.int 0))])) t3 (.tup [.str "propagate", .bl (!v.prop)])) (a := l) (o := .lst [.ref t1, .ref t2, .ref t3])
    have h2 := h1.same (Same.tr s1 (Same.tr s2 (Same.tr s3 s4)))
    have hw : Paired (WAt (L2.upd (L2.upd (L2.upd (L2.upd H1 t1 (.tup [.str "disabled", .bl v.dis])) t2 (.tup [.str "level", .bl (!decide (V.int v.level = V.int 0))])) t3 (.tup [.str "propagate", .bl (!v.prop)])) l (.lst [.ref t1, .ref t2, .ref t3]))) [.ref t1, .ref t2, .ref t3] (wsD v) :=
      .cons ⟨t1, rfl, w1⟩ (.cons ⟨t2, rfl, w2⟩ (.cons ⟨t3, rfl, w3⟩ .nil))
    generalize L2.upd (L2.upd (L2.upd (L2.upd H1 t1 (.tup [.str "disabled", .bl v.dis])) t2 (.tup [.str "level", .bl (!decide (V.int v.level = V.int 0))])) t3 (.tup [.str "propagate", .bl (!v.prop)])) l (.lst [.ref t1, .ref t2, .ref t3]) = H2 at h2 hw wl ⊢
    clear s1 s2 s3 s4 w1 w2 w3 h1 G1
    generalize hws : wsD v = ws at hw
    obtain ⟨x2, ex2, _, lx2⟩ := h2.at_
    refine ⟨_, rfl, .inl ⟨rfl, _, SqL.of ex2⟩, ?_⟩
    refine ⟨_, rfl, l, rfl, ⟨_, SqL.of wl⟩, ?_⟩
    intro D hD
    refine lc_list (xs := [.ref t1, .ref t2, .ref t3]) (fun i H' => Same H2 H' ∧ ∃ xs, H' D = some (.lst xs) ∧ Paired (DdAt H') xs (((ws.take i).filter (·.2)).map fun x => Dd.d2 x.1 nm)) ⟨Same.nw hD, [], upd_same, .nil⟩ (fun i H' _ h => SqL.of (h.1 _ _ wl)) ?_ ?_
    · rintro j x H' hx ⟨k1, xs, exs, qs⟩
      obtain ⟨⟨wd, wb⟩, ewd, t, rfl, et⟩ := Paired.nth hw hx
      have hj : j < 3 := by
        rcases Nat.lt_or_ge j 3 with z | z
        · exact z
        · rw [List.getElem?_eq_none (by simpa using z)] at hx
          cases hx
      refine ⟨t, _, rfl, SqT.of (k1 _ _ et), rfl, ?_⟩
      refine ⟨_, _, rfl, _, _, rfl, rfl, ?_⟩
      refine ⟨rfl, ?_⟩
      have hl3 : xs.length ≤ 3 := by
        rw [Paired.length qs, List.length_map]
        refine Nat.le_trans (List.length_filter_le _ _) ?_
        rw [List.length_take]
        omega
      rw [filt_nth ewd]
      refine ⟨_, rfl, _, rfl, ?_⟩
      show if wb = true then _ else _
      cases wb with
      | false =>
        refine iteF ⟨k1, xs, exs, ?_⟩
        simpa using qs
      | true =>
        refine iteT ?_
        refine ⟨_, rfl, _, rfl, ssz rfl, fun t' ht' => ?_⟩
        have kt : ∀ c zs, H' c = some (.tup zs) → L2.upd (L2.upd H' t' (.tup [.str wd, .str nm])) D (.lst (xs ++ [.ref t'])) c = some (.tup zs) := fun c zs z => by
          rw [upd_ne (ne_of z exs fun w => nomatch w), upd_ne (ne_of_none z ht')]
          exact z
        refine ⟨xs, upd_at exs ht', by rw [sizeLine_eq]; omega, Same.wr (Same.tr k1 (Same.nw ht')) hD, _, upd_same, ?_⟩
        rw [List.map_append]
        refine Paired.app (Paired.impl qs fun _ _ z => z.kt kt) (.cons ⟨t', rfl, ?_⟩ .nil)
        rw [upd_ne (ne_of_none exs ht').symm, upd_same]
        rfl
    rintro H3 ⟨k3, z3, ez3, qz3⟩
    have hwl : ws.length = 3 := by rw [← hws]; rfl
    rw [show ([V.ref t1, V.ref t2, V.ref t3] : List V).length = ws.length from hwl.symm, List.take_length, ← hws, wsD_eq] at qz3
    have h3 := h2.same k3
    have ex3 := k3 _ _ ex2
    have ha3 := aDd_len nm v
    have lz3 := Paired.length qz3
    refine ⟨q, D, _, _, rfl, rfl, ex3, ez3, by rw [lx2, lz3, List.length_nil, sizeLine_eq]; omega, ?_⟩
    have h4 := h3.ext ex3 qz3
    rw [List.nil_append] at h4
    generalize L2.upd H3 q _ = H4 at h4 ⊢
    clear h3 h2 hws hw wl lx2 ex2 ex3 ez3 qz3 lz3 k3
    have G4 := h4.2.1
    -- filters
    obtain ⟨x4, ex4, _, lx4⟩ := h4.at_
    refine ⟨_, rfl, .inl ⟨rfl, _, SqL.of ex4⟩, ?_⟩
    refine ⟨_, rfl, ra, _, rfl, dget (G4 _ _ era) r4, ?_⟩
    refine ⟨f, _, rfl, .inl (SqL.of (G4 _ _ ef)), ?_⟩
    refine ⟨ys.length, rfl, by omega, by omega, ?_⟩
    intro D' hD'
    refine lc_deeds (fun i => .d3 "filter" nm i) hD' (by omega) (fun _ => rfl) (fun j H' Q' hj hk hqq => ?_) fun H5 zs hk5 ez qz => ?_
    · refine ⟨_, rfl, _, rfl, ssz rfl, fun t ht => ?_⟩
      have z := hqq t ht
      rw [show ((0 : Int) + (j : Int)) = ((j : Nat) : Int) by omega]
      exact z
    have h5 := h4.same hk5
    have ex5 := hk5 _ _ ex4
    refine ⟨q, D', _, _, rfl, rfl, ex5, ez, by rw [lx4, Paired.length qz, List.length_map, List.length_range, sizeLine_eq]; omega, ?_⟩
    have h6 := h5.ext ex5 qz
    rw [hnf] at h6
    generalize L2.upd H5 q _ = H6 at h6 ⊢
    clear h5 h4 G4 hk5 ez qz ex5 ex4 lx4
    -- handlers
    refine ⟨_, rfl, ra, _, rfl, dget (h6.2.1 _ _ era) r5, ?_⟩
    refine ⟨g, _, rfl, SqL.of (h6.2.1 _ _ eg), ?_⟩
    refine for_it walk_enum (fun i σ' H' => ∃ o5 o6 o7, σ' = [some (.ref p), some (.str nm), some (.ref ra), some (.ref q), some (.ref l), o5, o6, o7, none, none, none] ∧ FN H q H' (aDd nm v ++ (List.range v.nf).map (fun i => .d3 "filter" nm i) ++ hDd nm 0 (v.hs.take i))) ?_ (fun i σ' H' _ ⟨_, _, _, _, z⟩ => SqL.of (z.2.1 _ _ eg)) ?_ ?_
    · exact ⟨_, _, _, rfl, by rw [List.take_zero, hDd, List.append_nil]; exact h6⟩
    · rintro i x σ' H7 H8 hi ⟨o5, o6, o7, rfl, h7⟩ ⟨T', xi, hd, rfl, hT, rfl, e1, e2⟩
      cases e1
      have e2 : (ats.map natV)[i]? = some hd := e2
      rw [List.getElem?_map] at e2
      obtain ⟨n, en, rfl⟩ := Option.map_eq_some_iff.mp e2
      obtain ⟨hx, ehx, hv0, ehv, hat⟩ := Paired.nth hA en
      have h8 := h7.same (Same.nw (o := .tup [V.int (i : Nat), natV n]) hT)
      refine ⟨T', _, rfl, SqT.of upd_same, rfl, ?_⟩
      refine ⟨_, _, rfl, _, _, rfl, rfl, ?_⟩
      generalize L2.upd H7 T' (.tup [V.int (i : Nat), natV n]) = H8 at h8 ⊢
      clear h7
      rw [List.length_map] at hi
      have hil2 : i < v.hs.length := by omega
      have hlen : (hDd nm 0 (v.hs.take i)).length ≤ 102 * 100 := by
        have z := hDd_len nm (v.hs.take i) 0 fun y hy => hok.each y (List.mem_of_mem_take hy)
        rw [List.length_take] at z
        omega
      have hx100 := hok.each hx (List.mem_of_getElem? ehx)
      have G8 := h8.2.1
      obtain ⟨a, ka, fa, ya, rfl, na, ea, m1, m2, nfa, efa, hfa⟩ := hat
      -- one
      refine ⟨_, rfl, p, _, rfl, dget (G8 _ _ ep) l2, _, rfl, hs, hps, _, _, rfl, rfl, SqL.of (G8 _ _ eh), atI_nat ehv, ?_⟩
      obtain ⟨x8, ex8, _, lx8⟩ := h8.at_
      rw [List.length_append, List.length_append, List.length_map, List.length_range] at lx8
      -- extend
      refine ⟨_, rfl, .inl ⟨rfl, _, SqL.of ex8⟩, _, rfl, _, rfl, ssz rfl, fun t1 ht1 => ⟨ssz rfl, fun b1 hb1 => ?_⟩⟩
      have s1 := Same.nw (o := .tup [.str "handler", .str nm, .int (i : Nat)]) ht1
      have s2 := Same.nw (o := .lst [.ref t1]) hb1
      refine ⟨_, rfl, _, rfl, ssz rfl, fun t2 ht2 => ⟨ssz rfl, fun b2 hb2 => ?_⟩⟩
      have s3 := Same.nw (o := .tup [.str "level", .str nm, .int (i : Nat)]) ht2
      have s4 := Same.nw (o := .lst [.ref t2]) hb2
      have s14 := Same.tr s1 (Same.tr s2 (Same.tr s3 s4))
      refine ⟨_, rfl, a, _, rfl, dget (s14 _ _ (G8 _ _ ea)) m1, rfl, .inr ⟨_, rfl, ?_⟩⟩
      have wt1 := s4 _ _ (s3 _ _ (s2 _ _ (upd_same (H := H8) (a := t1) (o := .tup [.str "handler", .str nm, .int (i : Nat)]))))
      have wb1 := s4 _ _ (s3 _ _ (upd_same (a := b1) (o := .lst [.ref t1])))
      have wt2 := s4 _ _ (upd_same (a := t2) (o := .tup [.str "level", .str nm, .int (i : Nat)]))
      have wb2 := upd_same (H := L2.upd (L2.upd (L2.upd H8 t1 (.tup [.str "handler", .str nm, .int (i : Nat)])) b1 (.lst [.ref t1])) t2 (.tup [.str "level", .str nm, .int (i : Nat)])) (a := b2) (o := .lst [.ref t2])
      have h9 := h8.same s14
      have ex9 := s14 _ _ ex8
      generalize L2.upd (L2.upd (L2.upd (L2.upd H8 t1 (.tup [.str "handler", .str nm, .int (i : Nat)])) b1 (.lst [.ref t1])) t2 (.tup [.str "level", .str nm, .int (i : Nat)])) b2 (.lst [.ref t2]) = H9 at h9 ex9 wt1 wb1 wt2 wb2 ⊢
      have hk01 : ∃ m : Nat, (if (!decide (V.int hx.level = V.int 0)) = true then (1 : Int) else 0) = (m : Int) ∧ m ≤ 1 ∧ (List.replicate m [V.ref t2]).flatten = (if hx.level = 0 then ([] : List V) else [.ref t2]) := by
        by_cases hz : hx.level = 0
        · exact ⟨0, by rw [hz]; rfl, by omega, by rw [if_pos hz]; rfl⟩
        · exact ⟨1, by rw [decide_eq_false fun z => hz (V.int.inj z)]; rfl, by omega, by rw [if_neg hz]; rfl⟩
      obtain ⟨m, em, hm, fm⟩ := hk01
      rw [em]
      have hmt : (m : Int).toNat = m := Int.toNat_natCast m
      refine ⟨b2, m, _, rfl, rfl, wb2, by omega, by omega, by rw [hmt, List.length_singleton, sizeLine_eq]; omega, fun b3 hb3 => ?_⟩
      rw [hmt, fm]
      refine ⟨b1, b3, _, _, rfl, rfl, upd_at wb1 hb3, upd_same, ?_, fun b4 hb4 => ?_⟩
      · rw [List.length_singleton, sizeLine_eq]
        split <;> simp
      have s5 := Same.tr (Same.nw (o := .lst (if hx.level = 0 then ([] : List V) else [.ref t2])) hb3) (Same.nw (o := .lst ([.ref t1] ++ (if hx.level = 0 then ([] : List V) else [.ref t2]))) hb4)
      have wb4 := upd_same (H := L2.upd H9 b3 (.lst (if hx.level = 0 then ([] : List V) else [.ref t2]))) (a := b4) (o := .lst ([.ref t1] ++ (if hx.level = 0 then ([] : List V) else [.ref t2])))
      have ha := h9.same s5
      have exa := s5 _ _ ex9
      have wa1 := s5 _ _ wt1
      have wa2 := s5 _ _ wt2
      generalize L2.upd (L2.upd H9 b3 (.lst (if hx.level = 0 then ([] : List V) else [.ref t2]))) b4 (.lst ([.ref t1] ++ (if hx.level = 0 then ([] : List V) else [.ref t2]))) = Ha at ha exa wa1 wa2 wb4 ⊢
      have qn : Paired (DdAt Ha) ([.ref t1] ++ (if hx.level = 0 then ([] : List V) else [.ref t2])) (Dd.d3 "handler" nm i :: (if hx.level = 0 then [] else [Dd.d3 "level" nm i])) := by
        refine .cons ⟨t1, rfl, wa1⟩ ?_
        by_cases hz : hx.level = 0
        · rw [if_pos hz, if_pos hz]
          exact .nil
        · rw [if_neg hz, if_neg hz]
          exact .cons ⟨t2, rfl, wa2⟩ .nil
      have hl2 : (if hx.level = 0 then ([] : List Dd) else [.d3 "level" nm i]).length ≤ 1 := by split <;> simp
      have lqn := Paired.length qn
      rw [List.length_cons] at lqn
      refine ⟨q, b4, _, _, rfl, rfl, exa, wb4, by rw [lx8, lqn, sizeLine_eq]; omega, ?_⟩
      have hb := ha.ext exa qn
      generalize L2.upd Ha q _ = Hb at hb ⊢
      clear ha h9 h8 s5 s14 s4 s3 s2 s1 wa1 wa2 wb4 wt1 wt2 wb1 wb2 G8
      -- its filters
      obtain ⟨xb, exb, _, lxb⟩ := hb.at_
      rw [List.length_append, List.length_append, List.length_append, List.length_map, List.length_range, List.length_cons] at lxb
      refine ⟨_, rfl, .inl ⟨rfl, _, SqL.of exb⟩, ?_⟩
      refine ⟨_, rfl, a, _, rfl, dget (hb.2.1 _ _ ea) m2, ?_⟩
      refine ⟨fa, _, rfl, .inl (SqL.of (hb.2.1 _ _ efa)), ?_⟩
      refine ⟨ya.length, rfl, by omega, by omega, ?_⟩
      intro D hD
      refine lc_deeds (fun n => .d4 "filter" nm i n) hD (by omega) (fun _ => rfl) (fun n H' Q' hn hk hqq => ?_) fun Hc zs hkc ez qz => ?_
      · refine ⟨_, rfl, _, rfl, _, rfl, ssz rfl, fun t ht => ?_⟩
        have z := hqq t ht
        rw [show ((0 : Int) + (n : Int)) = ((n : Nat) : Int) by omega]
        exact z
      have hc := hb.same hkc
      have exc := hkc _ _ exb
      refine ⟨q, D, _, _, rfl, rfl, exc, ez, by rw [lxb, Paired.length qz, List.length_map, List.length_range, sizeLine_eq]; omega, ?_⟩
      refine ⟨_, _, _, rfl, ?_⟩
      have z := hc.ext exc qz
      rw [hfa] at z
      rw [take_nth ehx, hDd_snoc, List.length_take, Nat.zero_add, Nat.min_eq_left (Nat.le_of_lt hil2)]
      simp only [List.append_assoc] at z ⊢
      exact z
    · rintro σ' H7 ⟨o5, o6, o7, rfl, h7⟩
      rw [List.length_map, hal, List.take_length] at h7
      exact ⟨_, rfl, k q H7 h7⟩
end
end Ry
namespace Ry
open PySem PySem.Spec PyProof.Rows L2 He RyH
open C8 (pss_cut tCut Cal Met Mak pe_c pe_mk pe_mt pe_mt0 pe_gc)
/-! ### the deeds of a plan -/
def spLawDeeds : Sp := fun vs H Q _ => ∃ (p lg : Addr) (bar : Int) (rws : List (Str × Addr)) (rows : List (Str × LV)) (N : Addr → Prop), vs = [.ref p] ∧ PVat N H p lg bar rws rows ∧ H lg = some (.dK (rws.map rowE)) ∧ (∀ b, N b → b ≠ lg) ∧ (∀ x ∈ rows, LVok x.2) ∧ rows.length ≤ 100 ∧
  ∀ q H', FN H q H' (sortD (bDd bar ++ rDd rows)) → Q (.ref q) H'
section
variable {P : Program} {w : World} {K : PySem.W.Frag} {mg : Str → Option Value} {base : Heap}
theorem sc_law_deeds : FnScope ["_law_plan_here", "_law_found", "_law_name"] ["_law_plan_here"] (defScope s_law_deeds) := ⟨rfl, rfl, rfl, by decide +kernel, rfl, by decide +kernel, by decide +kernel⟩
theorem cal_law_deeds (T : Txt w K mg) : Cal P w K mg base 2 "_law_deeds" (spLawDeeds) [] := by
  obtain ⟨fd, F⟩ := T.df_law_deeds
  have c_law_row_deeds := cal_law_row_deeds (P := P) (base := base) T
  refine ⟨_, fd, ["_law_plan_here"], [], F.ok sc_law_deeds (fun vs H Q E h => ?_) (fun cdv A outer s H vs Q E hr h => ?_), T.m_law_deeds, F.kp, F.bindsN (fun _ _ _ _ _ _ us hl => match us, hl with | [_], _ => rfl), .nil⟩
  · obtain ⟨_, _, _, _, _, _, rfl, _⟩ := h
    rfl
  · obtain ⟨p, lg, bar, rws, rows, N, rfl, hv, elg, hN, hrows, hlen, k⟩ := h
    refine ⟨_, PSs.nox (pss_cons (ps_set (i := 1) sc_law_deeds.nd rfl (Or.inl rfl) (pe_op op_rep (pe_lst (pa_cons (pe_tup (pa_cons pe_str pa_nil)) pa_nil)) (pe_callTy (T := "int") call_int1 (by rfl) T.f_int (by decide +kernel) (pa_cons (pe_cmpR op_ne (pe_dget (hu_of hr) (pv 0) pe_str (fun _ _ => rfl)) pe_int (nomark _)) pa_nil))))
      (pss_cons (ps_lock (ps_for PassesOwn.never rfl (pi_keys (pe_dget (hu_of hr) (pv 0) pe_str (fun _ _ => rfl))) (pg_name (i := 2) sc_law_deeds.nd rfl (Or.inl rfl))
        (pss_one (ps_expr (pe_bm PySem.F.plainAttrs_list PySem.F.slot_list_extend PySem.F.type_list_extend mt_extend (pv 1) (pa_cons (pe_c c_law_row_deeds hr (by decide) (by rfl) (pa_cons (pv 0) (pa_cons (pv 2) pa_nil))) pa_nil))))))
      (pss_one (ps_ret (pe_callB (RyD.cr_sortedDat (enc := Dd.enc) (F := DdAt) hr.units dd_alike (.inl dd_tup)) (by rfl) T.f_sorted (by decide +kernel) (pa_cons (pv 1) pa_nil)))))), ?_⟩
    have hv0 := hv
    obtain ⟨kv, hs, hps, np, ep, l1, l2, l3, nh, eh, hnd, hP⟩ := hv
    have hrl : rws.length = rows.length := Paired.length hP
    -- the bar
    refine ⟨ssz rfl, fun t ht => ⟨ssz rfl, fun b1 hb1 => ?_⟩⟩
    have s1 := Same.nw (o := .tup [.str "bar"]) ht
    have s2 := Same.nw (o := .lst [.ref t]) hb1
    refine ⟨_, rfl, p, _, rfl, dget (s2 _ _ (s1 _ _ ep)) l1, rfl, .inr ⟨_, rfl, ?_⟩⟩
    have hk01 : ∃ m : Nat, (if (!decide (V.int bar = V.int 0)) = true then (1 : Int) else 0) = (m : Int) ∧ m ≤ 1 ∧ (List.replicate m [V.ref t]).flatten = (if bar = 0 then ([] : List V) else [.ref t]) := by
      by_cases hz : bar = 0
      · exact ⟨0, by rw [hz]; rfl, by omega, by rw [if_pos hz]; rfl⟩
      · exact ⟨1, by rw [decide_eq_false fun z => hz (V.int.inj z)]; rfl, by omega, by rw [if_neg hz]; rfl⟩
    obtain ⟨m, em, hm, fm⟩ := hk01
    rw [em]
    have hmt : (m : Int).toNat = m := Int.toNat_natCast m
    refine ⟨b1, m, _, rfl, rfl, upd_same, by omega, by omega, by rw [hmt, List.length_singleton, sizeLine_eq]; omega, fun q hq => ?_⟩
    rw [hmt, fm]
    have h1 : FN H q (L2.upd (L2.upd (L2.upd H t (.tup [.str "bar"])) b1 (.lst [.ref t])) q (.lst (if bar = 0 then ([] : List V) else [.ref t]))) (bDd bar) := by
      refine ⟨was_none (was_none hq), Same.tr s1 (Same.tr s2 (Same.nw hq)), _, upd_same, ?_⟩
      unfold bDd
      by_cases hz : bar = 0
      · rw [if_pos hz, if_pos hz]
        exact .nil
      · rw [if_neg hz, if_neg hz]
        exact .cons ⟨t, rfl, upd_at (s2 _ _ upd_same) hq⟩ .nil
    generalize L2.upd (L2.upd (L2.upd H t (.tup [.str "bar"])) b1 (.lst [.ref t])) q (.lst (if bar = 0 then ([] : List V) else [.ref t])) = H1 at h1 ⊢
    clear s1 s2
    have hb1' := bDd_len bar
    -- the rows
    have elg1 := h1.2.1 _ _ elg
    have hpl : p ≠ lg := hN _ np
    have hql : q ≠ lg := fun z => by
      have := h1.1
      rw [z, elg] at this
      cases this
    refine ⟨lg, .dK (rws.map rowE), elg1, True.intro, fun od => ?_⟩
    refine ⟨_, rfl, p, _, rfl, dget (by rw [upd_ne hpl]; exact h1.2.1 _ _ ep) l3, ?_⟩
    refine ⟨lg, od, rfl, .inl ⟨_, upd_same, ?_⟩⟩
    refine for_it walk_keys (fun i σ' H' => ∃ o2, σ' = [some (.ref p), some (.ref q), o2] ∧ H' lg = some (.frz od (.dK (rws.map rowE))) ∧ FN H q (L2.upd H' lg (.dK (rws.map rowE))) (bDd bar ++ rDd (rows.take i))) ?_ (fun i σ' H' _ ⟨_, _, z, _⟩ => z) ?_ ?_
    · refine ⟨_, rfl, upd_same, ?_⟩
      rw [upd_upd, List.take_zero, show rDd [] = [] from rfl, List.append_nil]
      have e : L2.upd H1 lg (.dK (rws.map rowE)) = H1 := by
        funext c
        by_cases h : c = lg
        · rw [h, upd_same, elg1]
        · rw [upd_ne h]
      rw [e]
      exact h1
    · rintro i x σ' H5 H6 hi ⟨o2, rfl, e5, h5⟩ ⟨rfl, k0, v0, ek, rfl⟩
      rw [List.length_map] at hi
      have er : rws[i]? = some rws[i] := List.getElem?_eq_getElem hi
      rw [List.getElem?_map, er] at ek
      obtain ⟨z, ez, hk, hat⟩ := Paired.nth hP er
      have hk0 : k0 = kS rws[i].1 := (congrArg Prod.fst (Option.some.inj ek)).symm
      subst hk0
      have kp : Kp (fun b => b = lg) H H6 := fun b o w n => by
        have w2 := h5.2.1 _ _ w
        rw [upd_ne n] at w2
        exact w2
      have hok2 := hrows z (List.mem_of_getElem? ez)
      obtain ⟨x5, ex5, _, lx5⟩ := h5.at_
      rw [upd_ne hql] at ex5
      refine ⟨_, rfl, .inl ⟨rfl, _, SqL.of ex5⟩, ?_⟩
      refine ⟨_, rfl, _, rfl, ?_⟩
      refine ⟨p, lg, bar, rws, rows, N, i, rws[i].1, z.2, rfl, hv0.kp kp (fun b nb e => hN b nb e), .inr ⟨od, e5⟩, by rw [ez, hk], hok2, fun r H7 h7 => ?_⟩
      obtain ⟨z7, ez7, qz7, lz7⟩ := h7.at_
      have hd7 := dOf_len rws[i].1 z.2 hok2
      have hr7 := rDd_len (rows := rows.take i) fun w hw => hrows w (List.mem_of_mem_take hw)
      rw [List.length_take] at hr7
      rw [List.length_append] at lx5
      have hmin : min i rows.length ≤ 100 := by omega
      have ex7 := h7.2.1 _ _ ex5
      refine ⟨q, r, _, _, rfl, rfl, ex7, ez7, by rw [lx5, lz7, sizeLine_eq]; omega, ?_⟩
      obtain ⟨f1, f2⟩ := FN.lockExt elg h5 e5 h7 ex7 qz7
      refine ⟨_, rfl, f1, ?_⟩
      rw [take_nth ez, rDd_snoc, ← List.append_assoc, ← hk]
      exact f2
    · rintro σ' H5 ⟨o2, rfl, e5, h5⟩
      rw [List.length_map, hrl, List.take_length] at h5
      refine ⟨e5, ?_⟩
      obtain ⟨x5, ex5, q5, lx5⟩ := h5.at_
      have hr7 := rDd_len (rows := rows) hrows
      rw [List.length_append] at lx5
      refine ⟨_, rfl, ?_⟩
      refine ⟨q, x5, _, rfl, SqL.of ex5, q5, fun v d h => h.dp, by rw [List.length_append, sizeLine_eq]; omega, fun d _ => dd_depth d, fun ws r hr' hl hrn => ?_⟩
      refine k r _ ⟨Same.was h5.2.1 hrn, Same.tr h5.2.1 (Same.nw hrn), ws, upd_same, Paired.impl hr' fun _ _ z => z.kt fun c zs w => upd_at w hrn⟩
end
end Ry
namespace Ry
open PySem PySem.Spec PyProof.Rows L2 He RyH
open C8 (pss_cut tCut Cal Met Mak pe_c pe_mk pe_mt pe_mt0 pe_gc)
/-! ### a plan is copied -/
theorem pk_handlers (a b c : Addr) (i : Int) (x : Addr) : putK (planK a b c i) (kS "handlers") (.ref x) = planK x b c i := by kernel_rfl
theorem pk_loggers (a b c : Addr) (i : Int) (x : Addr) : putK (planK a b c i) (kS "loggers") (.ref x) = planK a b x i := by kernel_rfl
theorem pk_words (a b c : Addr) (i : Int) (x : Addr) : putK (planK a b c i) (kS "words") (.ref x) = planK a x c i := by kernel_rfl
theorem mergeK_rows : ∀ (bs cs : List (Str × Addr)), (((cs ++ bs).map (·.1)).Nodup) → mergeK (cs.map rowE) (bs.map rowE) = (cs ++ bs).map rowE
  | [], cs, _ => by rw [List.append_nil]; rfl
  | b :: bs, cs, h => by
    have hn : b.1 ∉ cs.map (·.1) := fun z => by
      rw [List.map_append, List.nodup_append] at h
      exact h.2.2 _ z _ (List.mem_map.mpr ⟨b, List.mem_cons_self .., rfl⟩) rfl
    show mergeK (putK (cs.map rowE) (kS b.1) (.ref b.2)) (bs.map rowE) = _
    rw [putK_row, putA_new hn]
    have e : cs ++ b :: bs = (cs ++ [(b.1, b.2)]) ++ bs := by rw [List.append_assoc]; rfl
    rw [e]
    exact mergeK_rows bs (cs ++ [(b.1, b.2)]) (by rw [← e]; exact h)
structure NB (S : Addr → Prop) (H : Hp) (xs : List Addr) (b : Addr) : Prop where
  l : H b ≠ none
  o : b ∉ xs
  s : S b
theorem NB.up {S : Addr → Prop} {H H' : Hp} {xs : List Addr} {b : Addr} (h : NB S H xs b) (k : ∀ b, H b ≠ none → H' b ≠ none) : NB S H' xs b := ⟨k _ h.l, h.o, h.s⟩
/-- what is the plan's, or new -/
def OrNew (N : Addr → Prop) (H : Hp) : Addr → Prop := fun b => N b ∨ H b = none
structure CopyW (N : Addr → Prop) (H H' : Hp) (q hs ws lg : Addr) (hps : List Addr) (wvs : List V) (rows : List (Str × Addr)) (pl : Pl) : Prop where
  w : PlanW (OrNew N H) H' q hs ws lg hps wvs rows pl
  sm : Same H H'
  fq : H q = none
  fh : H hs = none
  fw : H ws = none
  fl : H lg = none
  frH : ∀ a ∈ hps, H a = none
  frR : ∀ r ∈ rows, H r.2 = none
  ndH : hps.Nodup
  ndR : (rows.map (·.2)).Nodup
  dis : ∀ r ∈ rows, r.2 ∉ hps
def spCopied : Sp := fun vs H Q _ => ∃ (p : Addr) (pl : Pl) (N : Addr → Prop), vs = [.ref p] ∧ PlanAt N H p pl ∧ (pl.loggers.map (·.1)).Nodup ∧ pl.handlers.length ≤ 100 ∧ pl.loggers.length ≤ 100 ∧
  ∀ q hs ws lg hps wvs rows H', CopyW N H H' q hs ws lg hps wvs rows pl → Q (.ref q) H'
theorem ne_upd {H : Hp} {p b : Addr} {o : HO} (h : H b ≠ none) : L2.upd H p o b ≠ none := by
  by_cases z : b = p
  · rw [z, upd_same]
    exact fun z => nomatch z
  · rw [upd_ne z]
    exact h
theorem live_of {H : Hp} {b : Addr} {o : HO} (h : H b = some o) : H b ≠ none := by
  rw [h]
  exact fun z => nomatch z
section
variable {P : Program} {w : World} {K : PySem.W.Frag} {mg : Str → Option Value} {base : Heap}
theorem sc_law_copied : FnScope ["_law_plan_here", "_law_found", "_law_one", "_law_name"] ["_law_plan_here"] (defScope s_law_copied) := ⟨rfl, rfl, rfl, by decide +kernel, rfl, by decide +kernel, by decide +kernel⟩
theorem cal_law_copied (T : Txt w K mg) : Cal P w K mg base 1 "_law_copied" (spCopied) [] := by
  obtain ⟨fd, F⟩ := T.df_law_copied
  refine ⟨_, fd, ["_law_plan_here"], [], F.ok sc_law_copied (fun vs H Q E h => ?_) (fun cdv A outer s H vs Q E hr h => ?_), T.m_law_copied, F.kp, F.bindsN (fun _ _ _ _ _ _ us hl => match us, hl with | [_], _ => rfl), .nil⟩
  · obtain ⟨_, _, _, rfl, _⟩ := h
    rfl
  · obtain ⟨p, pl, N, rfl, hP, hnd, hl1, hl2, k⟩ := h
    refine ⟨_, PSs.nox (pss_cons (ps_set (i := 1) sc_law_copied.nd rfl (Or.inl rfl) (pe_callTy (T := "dict") call_dictD (by rfl) T.f_dict (by decide +kernel) (pa_cons (pv 0) pa_nil)))
      (pss_cons (ps_dput (hu_of hr) (pv 1) pe_str (pe_lc (own := [("_law_one", 2)]) rfl sc_law_copied.nd (pi_list (pe_dget (hu_of hr) (pv 0) pe_str (fun _ _ => rfl))) (blkOk_by (N := ["_law_plan_here", "_law_found", "_law_one", "_law_name"]) (sc := defScope s_law_copied) (own := [("_law_one", 2)]) (by decide +kernel)) (fun _ _ _ _ _ => pg_name (i := 2) sc_law_copied.nd rfl (Or.inl rfl)) (fun _ _ _ _ _ => pts_nil) (fun _ _ _ _ _ => (pe_callTy (T := "dict") call_dictD (by rfl) T.f_dict (by decide +kernel) (pa_cons (pv 2) pa_nil)))) rfl)
      (pss_cons (ps_dput (hu_of hr) (pv 1) pe_str (pe_callTy (T := "dict") (call_dictP rfl) (by rfl) T.f_dict (by decide +kernel) (pa_cons (pe_lock (pe_lc (own := [("_law_name", 3)]) rfl sc_law_copied.nd (pi_keys (pe_dget (hu_of hr) (pv 0) pe_str (fun _ _ => rfl))) (blkOk_by (N := ["_law_plan_here", "_law_found", "_law_one", "_law_name"]) (sc := defScope s_law_copied) (own := [("_law_name", 3)]) (by decide +kernel)) (fun _ _ _ _ _ => pg_name (i := 3) sc_law_copied.nd rfl (Or.inl rfl)) (fun _ _ _ _ _ => pts_nil) (fun _ _ _ _ _ => (pe_tup (pa_cons (pv 3) (pa_cons (pe_callTy (T := "dict") call_dictD (by rfl) T.f_dict (by decide +kernel) (pa_cons (pe_dget (hu_of hr) (pe_dget (hu_of hr) (pv 0) pe_str (fun _ _ => rfl)) (pv 3) (fun _ _ => rfl)) pa_nil)) pa_nil)))))) pa_nil)) rfl)
      (pss_cons (ps_dput (hu_of hr) (pv 1) pe_str (pe_callTy (T := "list") call_list_of (by rfl) T.f_list (by decide +kernel) (pa_cons (pe_dget (hu_of hr) (pv 0) pe_str (fun _ _ => rfl)) pa_nil)) rfl)
      (pss_one (ps_ret (pv 1))))))), ?_⟩
    obtain ⟨hs, ws, lg, hps, wvs, rows, W⟩ := hP
    have ep := W.at_
    -- dict(plan)
    refine ⟨_, rfl, p, _, rfl, .inl ep, fun q hq => ?_⟩
    have s1 := Same.nw (o := .dK (planK hs ws lg pl.bar)) hq
    have eq1 := upd_same (H := H) (a := q) (o := .dK (planK hs ws lg pl.bar))
    generalize L2.upd H q (.dK (planK hs ws lg pl.bar)) = H1 at s1 eq1 ⊢
    -- handlers
    have hhl : hps.length = pl.handlers.length := Paired.length W.hsP
    refine ⟨_, rfl, p, _, rfl, dget (s1 _ _ ep) (vk_handlers hs ws lg pl.bar), ?_⟩
    refine ⟨hs, rfl, ⟨_, SqL.of (s1 _ _ W.hsE)⟩, ?_⟩
    intro D hD
    have hD0 : H D = none := Same.was s1 hD
    have hqD : q ≠ D := ne_of_none eq1 hD
    refine lc_list (xs := hps.map V.ref) (fun i H' => Same H1 H' ∧ ∃ has, H' D = some (.lst (has.map V.ref)) ∧ Paired (HPlanAt (NB (OrNew N H) H' [q, D]) H') has (pl.handlers.take i) ∧ has.Nodup ∧ ∀ a ∈ has, H1 a = none ∧ a ≠ D ∧ H' a ≠ none) ⟨Same.nw hD, [], upd_same, .nil, List.nodup_nil, (fun a h => nomatch h)⟩ (fun i H' _ h => SqL.of (h.1 _ _ (s1 _ _ W.hsE))) ?_ ?_
    · rintro i v H' hv ⟨k1, has, eD, hp, nd, hfr⟩
      rw [List.getElem?_map] at hv
      obtain ⟨ha, hha, rfl⟩ := Option.map_eq_some_iff.mp hv
      obtain ⟨h, hh, fl, fv, n1, e1, n2, e2, fm⟩ := Paired.nth W.hsP hha
      have sH : Same H H' := Same.tr s1 k1
      refine ⟨rfl, ?_⟩
      refine ⟨_, rfl, ha, _, rfl, .inl (sH _ _ e1), fun a hna => ?_⟩
      have hlen : has.length = min i pl.handlers.length := by rw [Paired.length hp, List.length_take]
      have haD : a ≠ D := fun z => by rw [z, eD] at hna; cases hna
      have ha1 : H1 a = none := Same.was k1 hna
      have haq : a ≠ q := fun z => by rw [z, eq1] at ha1; cases ha1
      have sE : Same H (L2.upd (L2.upd H' a (.dK (hpK h fl fv))) D (.lst (has.map V.ref ++ [.ref a]))) := Same.wr (Same.tr sH (Same.nw hna)) hD0
      have up : ∀ b, H' b ≠ none → L2.upd (L2.upd H' a (.dK (hpK h fl fv))) D (.lst (has.map V.ref ++ [.ref a])) b ≠ none := fun b z => ne_upd (ne_upd z)
      have upH : ∀ b, N b → H b ≠ none → NB (OrNew N H) (L2.upd (L2.upd H' a (.dK (hpK h fl fv))) D (.lst (has.map V.ref ++ [.ref a]))) [q, D] b := fun b nb z => by
        cases w : H b with
        | none => exact absurd w z
        | some o => exact ⟨live_of (sE _ _ w), by simpa using (⟨(fun z => by rw [z, hq] at w; cases w), (fun z => by rw [z, hD0] at w; cases w)⟩ : b ≠ q ∧ b ≠ D), .inl nb⟩
      refine ⟨has.map V.ref, upd_at eD hna, by rw [List.length_map, sizeLine_eq]; omega, Same.wr (Same.tr k1 (Same.nw hna)) hD, has ++ [a], by rw [upd_same, List.map_append]; rfl, ?_, ?_, ?_⟩
      · rw [take_nth hh]
        refine Paired.snoc ?_ (Paired.impl hp fun x y z => z.kp (M := fun b => b = D) ((Kp.new hna).trans (Kp.at rfl)) fun b hb => ⟨hb.up up, fun w => hb.o (by rw [w]; simp)⟩)
        refine ⟨fl, fv, ⟨ne_upd (live_of upd_same), by simpa using (⟨haq, haD⟩ : a ≠ q ∧ a ≠ D), .inr (Same.was s1 ha1)⟩, by rw [upd_ne haD, upd_same], upH fl n2.1 (live_of e2), sE _ _ e2, ?_⟩
        exact fm.live.kp (M := fun _ => False) (Kp.same sE) fun b hb => ⟨upH b hb.1.1 hb.2, fun z => z⟩
      · exact List.nodup_append.mpr ⟨nd, by simp, fun x hx y hy => by rw [List.mem_singleton.mp hy]; intro z; rw [z] at hx; exact (hfr a hx).2.2 hna⟩
      · intro x hx
        rcases List.mem_append.mp hx with z | z
        · exact ⟨(hfr x z).1, (hfr x z).2.1, up _ (hfr x z).2.2⟩
        · rw [List.mem_singleton.mp z]
          exact ⟨ha1, haD, ne_upd (live_of upd_same)⟩
    rintro H2 ⟨k2, has, eD, hpH, ndH, hfr⟩
    rw [List.length_map, hhl, List.take_length] at hpH
    have s2 : Same H H2 := Same.tr s1 k2
    have eq2 := k2 _ _ eq1
    refine ⟨_, rfl, q, _, rfl, DPut.k (k := kS "handlers") eq2 (lsz rfl), ?_⟩
    rw [pk_handlers]
    have s3 : Same H (L2.upd H2 q (.dK (planK D ws lg pl.bar))) := Same.wr s2 hq
    have eq3 := upd_same (H := H2) (a := q) (o := .dK (planK D ws lg pl.bar))
    have eD3 : L2.upd H2 q (.dK (planK D ws lg pl.bar)) D = some (.lst (has.map V.ref)) := by rw [upd_ne hqD.symm]; exact eD
    have hp3 : Paired (HPlanAt (NB (OrNew N H) H2 [q, D]) (L2.upd H2 q (.dK (planK D ws lg pl.bar)))) has pl.handlers := Paired.impl hpH fun x y z => z.kp (M := fun b => b = q) (Kp.at rfl) fun b hb => ⟨hb, fun w => hb.o (by rw [w]; simp)⟩
    have lv3 : ∀ b, H2 b ≠ none → L2.upd H2 q (.dK (planK D ws lg pl.bar)) b ≠ none := fun b z => ne_upd z
    generalize L2.upd H2 q (.dK (planK D ws lg pl.bar)) = H3 at s3 eq3 eD3 hp3 lv3 ⊢
    -- loggers
    have elg3 := s3 _ _ W.lgE
    refine ⟨lg, .dK (rows.map rowE), elg3, True.intro, fun od => ?_⟩
    have hpl : p ≠ lg := W.d3
    refine ⟨_, rfl, p, _, rfl, dget (by rw [upd_ne hpl]; exact s3 _ _ ep) (vk_loggers hs ws lg pl.bar), ?_⟩
    refine ⟨lg, od, rfl, .inl ⟨_, upd_same, ?_⟩⟩
    intro E hE
    have hE3 : H3 E = none := was_none hE
    have hE0 : H E = none := Same.was s3 hE3
    have hEl : E ≠ lg := fun z => by rw [z, upd_same] at hE; cases hE
    have hrows := rows_keysP W.lgP
    refine lc_it walk_keys (fun i H' => H' lg = some (.frz od (.dK (rows.map rowE))) ∧ Same H3 (L2.upd H' lg (.dK (rows.map rowE))) ∧ ∃ ts bs, H' E = some (.lst (ts.map V.ref)) ∧ Paired (fun (t : Addr) (x : Str × Addr) => H' t = some (.tup [.str x.1, .ref x.2])) ts bs ∧
      Paired (RowP (NB (OrNew N H) H' [q, D, E]) H') bs (pl.loggers.take i) ∧ (bs.map (·.2)).Nodup ∧ ∀ x ∈ bs, H3 x.2 = none ∧ x.2 ≠ E ∧ H' x.2 ≠ none) ?_ (fun i H' _ h => h.1) ?_ ?_
    · refine ⟨upd_at upd_same hE, ?_, [], [], upd_same, .nil, .nil, List.nodup_nil, (fun x h => nomatch h)⟩
      intro b o z
      by_cases w : b = lg
      · rw [w, upd_same, ← elg3, ← w]
        exact z
      · rw [upd_ne w, upd_ne (ne_of_none z hE3), upd_ne w]
        exact z
    · rintro i x H' H'' hi ⟨ef, k4, ts, bs, eE, hts, hbs, nd, hfr4⟩ ⟨rfl, k0, v0, ek, rfl⟩
      rw [List.length_map] at hi
      have er : rows[i]? = some rows[i] := List.getElem?_eq_getElem hi
      rw [List.getElem?_map, er] at ek
      have hk0 : k0 = kS rows[i].1 := (congrArg Prod.fst (Option.some.inj ek)).symm
      subst hk0
      obtain ⟨rp, erp, hk, hl0, fl0, n1, e1, n2, e2, n3, e3⟩ := Paired.nth W.lgP er
      have kG : ∀ {b o}, H b = some o → b ≠ lg → H'' b = some o := fun {b o} z w => by
        have q := k4 _ _ (s3 _ _ z)
        rw [upd_ne w] at q
        exact q
      have hnd := hnd
      rw [← hrows] at hnd
      have n1l : rows[i].2 ≠ lg := n1.2.2.2.2
      refine ⟨rfl, ?_⟩
      dsimp only [tYes]
      rw [if_pos rfl]
      refine ⟨_, rfl, _, rfl, p, _, rfl, dget (kG ep hpl) (vk_loggers hs ws lg pl.bar), _, rfl, lg, .ref rows[i].2, rfl, .inl ⟨_, kS rows[i].1, .inr ⟨od, ef⟩, rfl, ?_⟩, ?_⟩
      · rw [valV_row, lookup_nd hnd er]
        rfl
      refine ⟨rows[i].2, _, rfl, .inl (kG e1 n1l), fun b hb => ⟨ssz rfl, fun t ht => ?_⟩⟩
      have hbE : b ≠ E := fun z => by rw [z, eE] at hb; cases hb
      have hbl : b ≠ lg := fun z => by rw [z, ef] at hb; cases hb
      have htb : t ≠ b := fun z => by rw [z, upd_same] at ht; cases ht
      have ht0 : H'' t = none := was_none ht
      have htE : t ≠ E := fun z => by rw [z, eE] at ht0; cases ht0
      have htl : t ≠ lg := fun z => by rw [z, ef] at ht0; cases ht0
      have hb3 : H3 b = none := by
        cases w : H3 b with
        | none => rfl
        | some o =>
          have q := k4 _ _ w
          rw [upd_ne hbl, hb] at q
          cases q
      have hbq : b ≠ q := fun z => by rw [z, eq3] at hb3; cases hb3
      have hbD : b ≠ D := fun z => by rw [z, eD3] at hb3; cases hb3
      have hlen : ts.length ≤ 100 := by
        rw [Paired.length hts, Paired.length hbs, List.length_take]
        omega
      have old : ∀ {c o}, H'' c = some o → c ≠ E → L2.upd (L2.upd (L2.upd H'' b (.dK (rpK rp.2 hl0 fl0))) t (.tup [.str rows[i].1, .ref b])) E (.lst (ts.map V.ref ++ [.ref t])) c = some o := fun {c o} z w => by
        rw [upd_ne w, upd_ne (ne_of_none z ht0), upd_ne (ne_of_none z hb)]
        exact z
      have up : ∀ c, H'' c ≠ none → L2.upd (L2.upd (L2.upd H'' b (.dK (rpK rp.2 hl0 fl0))) t (.tup [.str rows[i].1, .ref b])) E (.lst (ts.map V.ref ++ [.ref t])) c ≠ none := fun c z => ne_upd (ne_upd (ne_upd z))
      have inn : ∀ {c o}, N c → H c = some o → c ≠ lg → NB (OrNew N H) (L2.upd (L2.upd (L2.upd H'' b (.dK (rpK rp.2 hl0 fl0))) t (.tup [.str rows[i].1, .ref b])) E (.lst (ts.map V.ref ++ [.ref t]))) [q, D, E] c := fun {c o} nc z w => by
        refine ⟨up _ (live_of (kG z w)), ?_, .inl nc⟩
        simp only [List.mem_cons, List.not_mem_nil, or_false]
        rintro (w | w | w)
        · rw [w, hq] at z; cases z
        · rw [w, hD0] at z; cases z
        · rw [w, hE0] at z; cases z
      refine ⟨ts.map V.ref, upd_at (upd_at eE hb) ht, by rw [List.length_map, sizeLine_eq]; omega, old ef hEl.symm, ?_, ts ++ [t], bs ++ [(rows[i].1, b)], by rw [upd_same, List.map_append]; rfl, ?_, ?_, ?_, ?_⟩
      · intro c o z
        have w := k4 _ _ z
        by_cases hc : c = lg
        · rw [hc, upd_same] at w ⊢
          exact w
        · rw [upd_ne hc] at w ⊢
          exact old w (ne_of_none z hE3)
      · refine Paired.snoc ?_ (Paired.impl hts fun x y z => old z (ne_of z eE fun w => nomatch w))
        show _ = _
        rw [upd_ne htE, upd_same]
        rfl
      · rw [take_nth erp]
        refine Paired.snoc ?_ (Paired.impl hbs fun x y z => z.kp (M := fun c => c = E) (fun c o q n => old q n) fun c hc => ⟨hc.up up, fun w => hc.o (by rw [w]; simp)⟩)
        refine ⟨hk, hl0, fl0, ⟨ne_upd (ne_upd (live_of upd_same)), by simpa using (⟨hbq, hbD, hbE⟩ : b ≠ q ∧ b ≠ D ∧ b ≠ E), .inr (Same.was s3 hb3)⟩, by rw [upd_ne hbE, upd_ne htb.symm, upd_same], inn n2.1 e2 n2.2.2.2.2, old (kG e2 n2.2.2.2.2) (ne_of_none e2 hE0), inn n3.1 e3 n3.2.2.2.2, old (kG e3 n3.2.2.2.2) (ne_of_none e3 hE0)⟩
      · rw [List.map_append]
        refine List.nodup_append.mpr ⟨nd, by simp, fun x hx y hy => ?_⟩
        obtain ⟨z, hz, rfl⟩ := List.mem_map.mp hx
        rw [List.mem_singleton.mp hy]
        intro w
        have := (hfr4 z hz).2.2
        rw [w] at this
        exact this hb
      · intro x hx
        rcases List.mem_append.mp hx with z | z
        · exact ⟨(hfr4 x z).1, (hfr4 x z).2.1, up _ (hfr4 x z).2.2⟩
        · rw [List.mem_singleton.mp z]
          exact ⟨hb3, hbE, ne_upd (ne_upd (live_of upd_same))⟩
    rintro H4 ⟨ef, k4, ts, bs, eE, hts, hbs, ndR, hfr4⟩
    have hll : (rows.map rowE).length = pl.loggers.length := by rw [List.length_map, Paired.length W.lgP]
    rw [hll, List.take_length] at hbs
    refine ⟨ef, ?_⟩
    have nlg : ∀ {c o}, H4 c = some o → o ≠ .frz od (.dK (rows.map rowE)) → L2.upd H4 lg (.dK (rows.map rowE)) c = some o := fun {c o} z w => by
      rw [upd_ne (fun q => by rw [q, ef] at z; exact w (Option.some.inj z).symm)]
      exact z
    have eE5 := nlg eE (fun z => nomatch z)
    have hts5 : Paired (fun (t : Addr) (x : Str × Addr) => L2.upd H4 lg (.dK (rows.map rowE)) t = some (.tup [.str x.1, .ref x.2])) ts bs := Paired.impl hts fun _ _ z => nlg z fun z => nomatch z
    have hbs5 : Paired (RowP (NB (OrNew N H) H4 [q, D, E]) (L2.upd H4 lg (.dK (rows.map rowE)))) bs pl.loggers := Paired.impl hbs fun x y z => by
      obtain ⟨a, hl0, fl0, n1, e1, n2, e2, n3, e3⟩ := z
      exact ⟨a, hl0, fl0, n1, nlg e1 (fun z => nomatch z), n2, nlg e2 (fun z => nomatch z), n3, nlg e3 (fun z => nomatch z)⟩
    have lv5 : ∀ b, H4 b ≠ none → L2.upd H4 lg (.dK (rows.map rowE)) b ≠ none := fun b z => ne_upd z
    have hfr5 : ∀ x ∈ bs, H3 x.2 = none ∧ x.2 ≠ E ∧ L2.upd H4 lg (.dK (rows.map rowE)) x.2 ≠ none := fun x hx => ⟨(hfr4 x hx).1, (hfr4 x hx).2.1, lv5 _ (hfr4 x hx).2.2⟩
    generalize L2.upd H4 lg (.dK (rows.map rowE)) = H5 at k4 eE5 hts5 hbs5 lv5 hfr5 ⊢
    clear hbs hts hfr4 nlg eE
    -- dict(..)
    refine ⟨E, ts, bs.map rowE, rfl, SqL.of eE5, ?_, fun r hr => ?_⟩
    · have aux : ∀ {ts : List Addr} {bs : List (Str × Addr)}, Paired (fun (t : Addr) (x : Str × Addr) => H5 t = some (.tup [.str x.1, .ref x.2])) ts bs → Paired (fun p kv => SqT K H5 p [kV kv.1, kv.2]) ts (bs.map rowE) := fun h => by
        induction h with
        | nil => exact .nil
        | cons a _ ih => exact .cons (SqT.of a) ih
      exact aux hts5
    have hkeysB : bs.map (·.1) = pl.loggers.map (·.1) := rows_keysP hbs5
    have hmg := mergeK_rows bs [] (by rw [List.nil_append, hkeysB]; exact hnd)
    rw [List.nil_append] at hmg
    have hmg' : mergeK [] (bs.map rowE) = bs.map rowE := hmg
    rw [hmg']
    have hr3 : H3 r = none := Same.was k4 hr
    have hr0 : H r = none := Same.was s3 hr3
    have hqr : q ≠ r := fun z => by rw [← z, eq3] at hr3; cases hr3
    have hDr : D ≠ r := fun z => by rw [← z, eD3] at hr3; cases hr3
    have eq5 := k4 _ _ eq3
    refine ⟨_, rfl, q, _, rfl, DPut.k (k := kS "loggers") (upd_at eq5 hr) (lsz rfl), ?_⟩
    rw [pk_loggers]
    have s6 : Same H (L2.upd (L2.upd H5 r (.dK (bs.map rowE))) q (.dK (planK D ws r pl.bar))) := Same.wr (Same.tr s3 (Same.tr k4 (Same.nw hr))) hq
    have nq : ∀ {c o}, H5 c = some o → c ≠ q → L2.upd (L2.upd H5 r (.dK (bs.map rowE))) q (.dK (planK D ws r pl.bar)) c = some o := fun {c o} z w => by
      rw [upd_ne w]
      exact upd_at z hr
    have eq6 := upd_same (H := L2.upd H5 r (.dK (bs.map rowE))) (a := q) (o := .dK (planK D ws r pl.bar))
    have er6 : L2.upd (L2.upd H5 r (.dK (bs.map rowE))) q (.dK (planK D ws r pl.bar)) r = some (.dK (bs.map rowE)) := by rw [upd_ne hqr.symm, upd_same]
    have lv6 : ∀ b, H5 b ≠ none → L2.upd (L2.upd H5 r (.dK (bs.map rowE))) q (.dK (planK D ws r pl.bar)) b ≠ none := fun b z => ne_upd (ne_upd z)
    generalize L2.upd (L2.upd H5 r (.dK (bs.map rowE))) q (.dK (planK D ws r pl.bar)) = H6 at s6 nq eq6 er6 lv6 ⊢
    -- words
    refine ⟨_, rfl, p, _, rfl, dget (s6 _ _ ep) (vk_words hs ws lg pl.bar), ws, wvs, rfl, .inl (SqL.of (s6 _ _ W.wsE)), fun u hu => ?_⟩
    have hu0 : H u = none := Same.was s6 hu
    refine ⟨_, rfl, q, _, rfl, DPut.k (k := kS "words") (upd_at eq6 hu) (lsz rfl), ?_⟩
    rw [pk_words]
    have s7 : Same H (L2.upd (L2.upd H6 u (.lst wvs)) q (.dK (planK D u r pl.bar))) := Same.wr (Same.tr s6 (Same.nw hu)) hq
    have n7 : ∀ {c o}, H6 c = some o → c ≠ q → L2.upd (L2.upd H6 u (.lst wvs)) q (.dK (planK D u r pl.bar)) c = some o := fun {c o} z w => by
      rw [upd_ne w]
      exact upd_at z hu
    have huq : u ≠ q := fun z => by rw [z, eq6] at hu; cases hu
    have hur : u ≠ r := fun z => by rw [z, er6] at hu; cases hu
    have eD6 := nq (k4 _ _ eD3) hqD.symm
    have huD : u ≠ D := fun z => by rw [z, eD6] at hu; cases hu
    refine ⟨_, rfl, k q D u r has wvs bs _ ⟨⟨.inr hq, .inr hD0, .inr hu0, .inr hr0, hqD, huq.symm, hqr, huD.symm, hDr, hur, upd_same, n7 eD6 hqD.symm, ?_, by rw [upd_ne huq, upd_same], ?_, n7 er6 hqr.symm, ?_⟩, s7, hq, hD0, hu0, hr0, fun a ha => Same.was s1 (hfr a ha).1, fun x hx => Same.was s3 (hfr5 x hx).1, ndH, ndR, fun x hx z => ?_⟩⟩
    · refine Paired.impl hp3 fun x y z => z.kp (M := fun b => b = q) (fun c o e n => n7 (nq (k4 _ _ e) n) n) fun b hb => ⟨⟨hb.s, fun w => hb.o (by rw [w]; simp), fun w => hb.o (by rw [w]; simp), fun w => ?_, fun w => ?_⟩, fun w => hb.o (by rw [w]; simp)⟩
      · have z3 := lv3 _ hb.l
        cases e : H3 b with
        | none => exact z3 e
        | some o =>
          have z5 := lv6 _ (live_of (k4 _ _ e))
          rw [w] at z5
          exact z5 hu
      · have z3 := lv3 _ hb.l
        rw [w] at z3
        exact z3 hr3
    · refine Paired.impl W.wsP fun x y z => ?_
      obtain ⟨t, e, nt, q'⟩ := z
      have hn : ∀ {c : Addr}, H c = none → t ≠ c := fun h => ne_of_none q' h
      exact ⟨t, e, ⟨.inl nt.1, hn hq, hn hD0, hn hu0, hn hr0⟩, s7 _ _ q'⟩
    · refine Paired.impl hbs5 fun x y z => z.kp (M := fun b => b = q) (fun c o e n => n7 (nq e n) n) fun b hb => ⟨⟨hb.s, fun w => hb.o (by rw [w]; simp), fun w => hb.o (by rw [w]; simp), fun w => ?_, fun w => ?_⟩, fun w => hb.o (by rw [w]; simp)⟩
      · have z5 := lv6 _ (lv5 _ hb.l)
        rw [w] at z5
        exact z5 hu
      · have z5 := lv5 _ hb.l
        rw [w] at z5
        exact z5 hr
    · have z3 := (hfr5 x hx).1
      have z2 := (hfr _ z).2.2
      exact lv3 _ z2 z3
end
end Ry
namespace Ry
open PySem PySem.Spec PyProof.Rows L2 He RyH
open C8 (pss_cut tCut Cal Met Mak pe_c pe_mk pe_mt pe_mt0 pe_gc)
/-! ### handlers of other classes -/
abbrev hd0 (y fl : Addr) : List (Str × V) := hdB y fl 0 .non .non "\n" false
theorem po1 (y fl : Addr) (a : V) : putF "capacity" a (hd0 y fl) = hd0 y fl ++ ([("capacity", a)] : List (Str × V)) := by kernel_rfl
theorem po2 (y fl : Addr) (a b : V) : putF "flush_level" b (hd0 y fl ++ ([("capacity", a)] : List (Str × V))) = hd0 y fl ++ ([("capacity", a), ("flush_level", b)] : List (Str × V)) := by kernel_rfl
theorem po3 (y fl : Addr) (a b c : V) : putF "target" c (hd0 y fl ++ ([("capacity", a), ("flush_level", b)] : List (Str × V))) = hd0 y fl ++ ([("capacity", a), ("flush_level", b), ("target", c)] : List (Str × V)) := by kernel_rfl
theorem po4 (y fl : Addr) (a b c d : V) : putF "flush_on_close" d (hd0 y fl ++ ([("capacity", a), ("flush_level", b), ("target", c)] : List (Str × V))) = hd0 y fl ++ ([("capacity", a), ("flush_level", b), ("target", c), ("flush_on_close", d)] : List (Str × V)) := by kernel_rfl
theorem po5 (y fl : Addr) (a b c d e : V) : putF "kept" e (hd0 y fl ++ ([("capacity", a), ("flush_level", b), ("target", c), ("flush_on_close", d)] : List (Str × V))) = hd0 y fl ++ ([("capacity", a), ("flush_level", b), ("target", c), ("flush_on_close", d), ("kept", e)] : List (Str × V)) := by kernel_rfl
theorem pq1 (y fl : Addr) (a : V) : putF "queue" a (hd0 y fl) = hd0 y fl ++ ([("queue", a)] : List (Str × V)) := by kernel_rfl
theorem pq2 (y fl : Addr) (a b : V) : putF "listener" b (hd0 y fl ++ ([("queue", a)] : List (Str × V))) = hd0 y fl ++ ([("queue", a), ("listener", b)] : List (Str × V)) := by kernel_rfl
/-- what follows the making of such a handler -/
def oddK (K : PySem.W.Frag) (C a dx y mk : Addr) (ms : List V) (H : Hp) (Q : VK) : Prop := ∀ fl ex H', H fl = none → ex.length ≤ 10 → lk ex "setLevel" = none → H' a = some (.ins C dx (hd0 y fl ++ ex)) → H' fl = some (.lst []) → H' mk = some (.lst (ms ++ [.ref a])) → Kp (fun b => b = a ∨ b = mk) H H' → Q .non H'
def spMemInit (K : PySem.W.Frag) : Sp := fun vs H Q _ => ∃ (a dx y mk : Addr) (fy : List (Str × V)) (ms : List V) (cap : Int), vs = [.ref a, .ref y, .int cap, .int 40, .non, .bl true] ∧ H a = some (.ins (ga K "MemoryHandler") dx []) ∧ YIns K H y fy ∧ lk fy "made" = some (.ref mk) ∧ lk fy "enrol" = none ∧ y ≠ a ∧ H mk = some (.lst ms) ∧ ms.length < 1000 ∧
  oddK K (ga K "MemoryHandler") a dx y mk ms H Q
def spQhInit (K : PySem.W.Frag) : Sp := fun vs H Q _ => ∃ (a dx y mk : Addr) (fy : List (Str × V)) (ms : List V) (v : V), vs = [.ref a, .ref y, v] ∧ H a = some (.ins (ga K "QueueHandler") dx []) ∧ YIns K H y fy ∧ lk fy "made" = some (.ref mk) ∧ lk fy "enrol" = none ∧ y ≠ a ∧ H mk = some (.lst ms) ∧ ms.length < 1000 ∧
  oddK K (ga K "QueueHandler") a dx y mk ms H Q
def spQueueInit (K : PySem.W.Frag) : Sp := fun vs H Q _ => ∃ (a dx : Addr), vs = [.ref a] ∧ H a = some (.ins (ga K "Queue") dx []) ∧ ∀ wl H', H wl = none → H' wl = some (.lst []) → H' a = some (.ins (ga K "Queue") dx ([("waiting", .ref wl)] : List (Str × V))) → Kp (fun b => b = a) H H' → Q .non H'
/-- classes of such handlers -/
def OC (K : PySem.W.Frag) (C : Addr) : Prop := C = ga K "MemoryHandler" ∨ C = ga K "QueueHandler"
section
variable {P : Program} {w : World} {K : PySem.W.Frag} {mg : Str → Option Value} {base : Heap}
theorem hc_MemoryHandler (T : Txt w K mg) : HCls K (ga K "MemoryHandler") := ⟨T.cl_MemoryHandler, T.no_MemoryHandler_filters, T.no_MemoryHandler_yard, T.no_MemoryHandler_level, T.no_MemoryHandler_formatter, T.no_MemoryHandler_name, T.no_MemoryHandler_terminator, T.no_MemoryHandler_closed⟩
theorem hc_QueueHandler (T : Txt w K mg) : HCls K (ga K "QueueHandler") := ⟨T.cl_QueueHandler, T.no_QueueHandler_filters, T.no_QueueHandler_yard, T.no_QueueHandler_level, T.no_QueueHandler_formatter, T.no_QueueHandler_name, T.no_QueueHandler_terminator, T.no_QueueHandler_closed⟩
theorem OC.hcls (T : Txt w K mg) {C : Addr} (h : OC K C) : HCls K C := by
  rcases h with rfl | rfl
  · exact hc_MemoryHandler T
  · exact hc_QueueHandler T
theorem OC.cmp (T : Txt w K mg) {C : Addr} (h : OC K C) : CmpC K C := by
  rcases h with rfl | rfl
  · exact T.cc_MemoryHandler
  · exact T.cc_QueueHandler
theorem sc_MemoryHandler_init : FnScope ["self", "yard", "capacity", "flushLevel", "target", "flushOnClose"] ["self", "yard", "capacity", "flushLevel", "target", "flushOnClose"] (defScope s_MemoryHandler_init) := ⟨rfl, rfl, rfl, by decide +kernel, rfl, by decide +kernel, by decide +kernel⟩
theorem fn_MemoryHandler_init (T : Txt w K mg) : ∃ fd, FnOk P w K mg base CX0 3 (ma K (ga K "MemoryHandler") "__init__") fd ["self", "yard", "capacity", "flushLevel", "target", "flushOnClose"] (spMemInit K) ∧ FunD K "__init__" "MemoryHandler.__init__" (defArgs s_MemoryHandler_init) (defBody s_MemoryHandler_init) (defScope s_MemoryHandler_init) (He.DefD.dvs K d_MemoryHandler_init) [] (ma K (ga K "MemoryHandler") "__init__") fd := by
  obtain ⟨fd, F⟩ := T.df_MemoryHandler_init
  obtain ⟨fd0, f_Handler_init, FF⟩ := fn_Handler_init (P := P) (base := base) T
  have b_Handler_init : Binds K fd0 ["self", "yard"] [] := FF.bindsN (fun _ _ _ _ _ _ us hl => match us, hl with | [_, _], _ => rfl)
  refine ⟨fd, F.ok sc_MemoryHandler_init (fun vs H Q E h => ?_) (fun cdv A outer s H vs Q E hr h => ?_), F⟩
  · obtain ⟨_, _, _, _, _, _, _, rfl, _⟩ := h
    rfl
  · obtain ⟨a, dx, y, mk, fy, ms, cap, rfl, ha, hy, hmk, hen, hya, emk, len, k⟩ := h
    refine ⟨_, PSs.nox (pss_cons (ps_expr (pe_cfn (pe_gc (by rfl) (T.gv_Handler)) T.cf_Handler_init f_Handler_init (hr.mono (by decide)) b_Handler_init .nil (C8.pass0 (E := C8.E0)) (pa_cons (pv 0) (pa_cons (pv 1) pa_nil))))
      (pss_cons (ps_fld (pv 0) (pv 2) rfl)
      (pss_cons (ps_fld (pv 0) (pv 3) rfl)
      (pss_cons (ps_fld (pv 0) (pv 4) rfl)
      (pss_cons (ps_fld (pv 0) (pv 5) rfl)
      (pss_one (ps_fld (pv 0) (pe_lst pa_nil) rfl))))))), ?_⟩
    have hy0 := hy
    obtain ⟨dy, ey⟩ := hy
    refine ⟨rfl, _, rfl, _, rfl, a, _, dx, y, mk, fy, ms, rfl, ha, hc_MemoryHandler T, hy0, hmk, hen, hya, emk, len, fun fl H' hfl e1 e2 e3 kk => ?_⟩
    have hfa : fl ≠ a := Ne.symm (ne_of_none ha hfl)
    have hma : mk ≠ a := ne_of emk ha (fun z => nomatch z)
    refine ⟨_, rfl, _, rfl, a, _, dx, _, rfl, e1, T.cl_MemoryHandler, T.no_MemoryHandler_capacity, csz rfl, ?_⟩
    rw [po1]
    refine ⟨_, rfl, _, rfl, a, _, dx, _, rfl, upd_same, T.cl_MemoryHandler, T.no_MemoryHandler_flush_level, csz rfl, ?_⟩
    rw [upd_upd, po2]
    refine ⟨_, rfl, _, rfl, a, _, dx, _, rfl, upd_same, T.cl_MemoryHandler, T.no_MemoryHandler_target, csz rfl, ?_⟩
    rw [upd_upd, po3]
    refine ⟨_, rfl, _, rfl, a, _, dx, _, rfl, upd_same, T.cl_MemoryHandler, T.no_MemoryHandler_flush_on_close, csz rfl, ?_⟩
    rw [upd_upd, po4]
    refine ⟨ssz rfl, fun kp hkp => ?_⟩
    have hka : kp ≠ a := fun z => by rw [z, upd_same] at hkp; cases hkp
    have hkH : H' kp = none := was_none hkp
    have hmk' : mk ≠ kp := ne_of_none e3 hkH
    have hfk : fl ≠ kp := ne_of_none e2 hkH
    refine ⟨_, rfl, a, _, dx, _, rfl, upd_at upd_same hkp, T.cl_MemoryHandler, T.no_MemoryHandler_kept, csz rfl, ?_⟩
    rw [po5]
    refine k fl _ _ hfl (Nat.le_of_ble_eq_true rfl) (by kernel_rfl) upd_same ?_ ?_ ?_
    · rw [upd_ne hfa, upd_ne hfk, upd_ne hfa]
      exact e2
    · rw [upd_ne hma, upd_ne hmk', upd_ne hma]
      exact e3
    · exact ((kk.trans (Kp.at (.inl rfl))).trans (Kp.new hkp)).trans (Kp.at (.inl rfl))
theorem mk_MemoryHandler (T : Txt w K mg) : Mak P w K mg base 3 "MemoryHandler" (ga K "MemoryHandler") (spMemInit K) [(.int (40)), .non, (.bl true)] := by
  obtain ⟨fd, f, F⟩ := fn_MemoryHandler_init (P := P) (base := base) T
  obtain ⟨ds, hV, hB⟩ := F.binds1 (ps := ["self", "yard", "capacity", "flushLevel", "target", "flushOnClose"]) 3 0 (fun z => nomatch z) rfl (fun _ _ _ _ _ _ _ us its h1 h2 => match us, its, h1, h2 with | [_, _, _], [_, _, _], _, _ => ⟨_, rfl, rfl⟩)
  refine ⟨_, fd, _, _, T.mk_MemoryHandler, ?_, T.m_MemoryHandler, hB, hV⟩
  exact f
theorem sc_QueueHandler_init : FnScope ["self", "yard", "queue"] ["self", "yard", "queue"] (defScope s_QueueHandler_init) := ⟨rfl, rfl, rfl, by decide +kernel, rfl, by decide +kernel, by decide +kernel⟩
theorem fn_QueueHandler_init (T : Txt w K mg) : ∃ fd, FnOk P w K mg base CX0 3 (ma K (ga K "QueueHandler") "__init__") fd ["self", "yard", "queue"] (spQhInit K) ∧ FunD K "__init__" "QueueHandler.__init__" (defArgs s_QueueHandler_init) (defBody s_QueueHandler_init) (defScope s_QueueHandler_init) (He.DefD.dvs K d_QueueHandler_init) [] (ma K (ga K "QueueHandler") "__init__") fd := by
  obtain ⟨fd, F⟩ := T.df_QueueHandler_init
  obtain ⟨fd0, f_Handler_init, FF⟩ := fn_Handler_init (P := P) (base := base) T
  have b_Handler_init : Binds K fd0 ["self", "yard"] [] := FF.bindsN (fun _ _ _ _ _ _ us hl => match us, hl with | [_, _], _ => rfl)
  refine ⟨fd, F.ok sc_QueueHandler_init (fun vs H Q E h => ?_) (fun cdv A outer s H vs Q E hr h => ?_), F⟩
  · obtain ⟨_, _, _, _, _, _, _, rfl, _⟩ := h
    rfl
  · obtain ⟨a, dx, y, mk, fy, ms, v, rfl, ha, hy, hmk, hen, hya, emk, len, k⟩ := h
    refine ⟨_, PSs.nox (pss_cons (ps_expr (pe_cfn (pe_gc (by rfl) (T.gv_Handler)) T.cf_Handler_init f_Handler_init (hr.mono (by decide)) b_Handler_init .nil (C8.pass0 (E := C8.E0)) (pa_cons (pv 0) (pa_cons (pv 1) pa_nil))))
      (pss_cons (ps_fld (pv 0) (pv 2) rfl)
      (pss_one (ps_fld (pv 0) pe_non rfl)))), ?_⟩
    have hy0 := hy
    obtain ⟨dy, ey⟩ := hy
    refine ⟨rfl, _, rfl, _, rfl, a, _, dx, y, mk, fy, ms, rfl, ha, hc_QueueHandler T, hy0, hmk, hen, hya, emk, len, fun fl H' hfl e1 e2 e3 kk => ?_⟩
    have hfa : fl ≠ a := Ne.symm (ne_of_none ha hfl)
    have hma : mk ≠ a := ne_of emk ha (fun z => nomatch z)
    refine ⟨_, rfl, _, rfl, a, _, dx, _, rfl, e1, T.cl_QueueHandler, T.no_QueueHandler_queue, csz rfl, ?_⟩
    rw [pq1]
    refine ⟨_, rfl, a, _, dx, _, rfl, upd_same, T.cl_QueueHandler, T.no_QueueHandler_listener, csz rfl, ?_⟩
    rw [upd_upd, pq2]
    refine k fl _ _ hfl (Nat.le_of_ble_eq_true rfl) (by kernel_rfl) upd_same ?_ ?_ ?_
    · rw [upd_ne hfa]
      exact e2
    · rw [upd_ne hma]
      exact e3
    · exact kk.trans (Kp.at (.inl rfl))
theorem mk_QueueHandler (T : Txt w K mg) : Mak P w K mg base 3 "QueueHandler" (ga K "QueueHandler") (spQhInit K) [] := by
  obtain ⟨fd, f, F⟩ := fn_QueueHandler_init (P := P) (base := base) T
  have hB : Binds K fd ["self", "yard", "queue"] [] := F.bindsN (fun _ _ _ _ _ _ us hl => match us, hl with | [_, _, _], _ => rfl)
  have hV : Vals [] ([] : List Value) := .nil
  refine ⟨_, fd, _, _, T.mk_QueueHandler, ?_, T.m_QueueHandler, hB, hV⟩
  exact f
theorem sc_Queue_init : FnScope ["self"] ["self"] (defScope s_Queue_init) := ⟨rfl, rfl, rfl, by decide +kernel, rfl, by decide +kernel, by decide +kernel⟩
theorem fn_Queue_init (T : Txt w K mg) : ∃ fd, FnOk P w K mg base CX0 1 (ma K (ga K "Queue") "__init__") fd ["self"] (spQueueInit K) ∧ FunD K "__init__" "Queue.__init__" (defArgs s_Queue_init) (defBody s_Queue_init) (defScope s_Queue_init) (He.DefD.dvs K d_Queue_init) [] (ma K (ga K "Queue") "__init__") fd := by
  obtain ⟨fd, F⟩ := T.df_Queue_init
  refine ⟨fd, F.ok sc_Queue_init (fun vs H Q E h => ?_) (fun cdv A outer s H vs Q E hr h => ?_), F⟩
  · obtain ⟨_, _, rfl, _⟩ := h
    rfl
  · obtain ⟨a, dx, rfl, ha, k⟩ := h
    refine ⟨_, PSs.nox (pss_one (ps_fld (pv 0) (pe_lst pa_nil) rfl)), ?_⟩
    refine ⟨ssz rfl, fun wl hwl => ?_⟩
    refine ⟨_, rfl, a, _, dx, _, rfl, upd_at ha hwl, T.cl_Queue, T.no_Queue_waiting, csz rfl, ?_⟩
    refine k wl _ hwl ?_ upd_same ((Kp.new hwl).trans (Kp.at rfl))
    rw [upd_ne (ne_of_none ha hwl).symm, upd_same]
theorem mk_Queue (T : Txt w K mg) : Mak P w K mg base 1 "Queue" (ga K "Queue") (spQueueInit K) [] := by
  obtain ⟨fd, f, F⟩ := fn_Queue_init (P := P) (base := base) T
  have hB : Binds K fd ["self"] [] := F.bindsN (fun _ _ _ _ _ _ us hl => match us, hl with | [_], _ => rfl)
  have hV : Vals [] ([] : List Value) := .nil
  refine ⟨_, fd, _, _, T.mk_Queue, ?_, T.m_Queue, hB, hV⟩
  exact f
theorem met_MemoryHandler_setLevel (T : Txt w K mg) : Met P w K mg base 3 (ga K "MemoryHandler") "setLevel" (spSetLevel K) [] := by
  obtain ⟨fd, f, F⟩ := fn_Handler_setLevel (P := P) (base := base) T
  have hB : Binds K fd ["self", "level"] [] := F.bindsN (fun _ _ _ _ _ _ us hl => match us, hl with | [_, _], _ => rfl)
  have hV : Vals [] ([] : List Value) := .nil
  refine ⟨_, fd, _, _, T.cl_MemoryHandler, T.me_MemoryHandler_setLevel, ?_, hB, hV⟩
  rw [T.in_MemoryHandler_setLevel]
  exact f
theorem met_QueueHandler_setLevel (T : Txt w K mg) : Met P w K mg base 3 (ga K "QueueHandler") "setLevel" (spSetLevel K) [] := by
  obtain ⟨fd, f, F⟩ := fn_Handler_setLevel (P := P) (base := base) T
  have hB : Binds K fd ["self", "level"] [] := F.bindsN (fun _ _ _ _ _ _ us hl => match us, hl with | [_, _], _ => rfl)
  have hV : Vals [] ([] : List Value) := .nil
  refine ⟨_, fd, _, _, T.cl_QueueHandler, T.me_QueueHandler_setLevel, ?_, hB, hV⟩
  rw [T.in_QueueHandler_setLevel]
  exact f
theorem met_OddH_setLevel (T : Txt w K mg) : ∀ C, OC K C → Met P w K mg base 3 C "setLevel" (spSetLevel K) [] := fun C h => by
  rcases h with rfl | rfl
  · exact met_MemoryHandler_setLevel T
  · exact met_QueueHandler_setLevel T
end
end Ry
namespace Ry
open PySem PySem.Spec PyProof.Rows L2 He RyH
open C8 (pss_cut tCut Cal Met Mak pe_c pe_mk pe_mt pe_mt0 pe_gc)
/-! ### views of a yard and of its plan -/
def hvOf (h : HP) : HV := ⟨h.level, h.filters.length⟩
def hvAt (hps : List HP) (i : Nat) : HV := match hps[i]? with
  | some h => hvOf h
  | none => ⟨0, 0⟩
def lvOf (hps : List HP) (r : RP) : LV := ⟨r.disabled, r.level, r.prop, r.filters.length, r.handlers.map (hvAt hps)⟩
def rowOf (pl : Pl) (k : Str) : RP := (pl.loggers.lookup k).getD ⟨0, true, [], [], false⟩
theorem rowOf_eq {pl : Pl} {k : Str} {r : RP} (nd : (pl.loggers.map (·.1)).Nodup) (h : (k, r) ∈ pl.loggers) : rowOf pl k = r := by
  unfold rowOf
  rw [mem_lookup nd h]
  rfl
theorem hvAt_some {hps : List HP} {i : Nat} {h : HP} (e : hps[i]? = some h) : hvAt hps i = hvOf h := by
  unfold hvAt
  rw [e]
theorem lvOf_ok {hps : List HP} {r : RP} {m : Nat} (h : RPok m r) (hh : ∀ x ∈ hps, x.filters.length ≤ 2) : LVok (lvOf hps r) := by
  refine ⟨Nat.le_trans h.fewF (by decide), ?_, fun x hx => ?_⟩
  · show (r.handlers.map (hvAt hps)).length ≤ 100
    rw [List.length_map]
    exact Nat.le_trans h.fewH (by decide)
  · obtain ⟨i, _, rfl⟩ := List.mem_map.mp (show x ∈ r.handlers.map (hvAt hps) from hx)
    unfold hvAt
    split
    · rename_i z e
      exact Nat.le_trans (hh z (List.mem_of_getElem? e)) (by decide)
    · exact Nat.zero_le _
theorem paired_maps {α β γ δ : Type} {F : γ → δ → Prop} {f : α → γ} {g : β → δ} : ∀ {xs : List α} {ys : List β} {G : α → β → Prop}, Paired G xs ys → (∀ x y, G x y → F (f x) (g y)) → Paired F (xs.map f) (ys.map g)
  | _, _, _, .nil, _ => .nil
  | _, _, _, .cons r t, h => .cons (h _ _ r) (paired_maps t h)
theorem paired_same {α γ δ : Type} {F : γ → δ → Prop} {f : α → γ} {g : α → δ} : ∀ {xs : List α}, (∀ x ∈ xs, F (f x) (g x)) → Paired F (xs.map f) (xs.map g)
  | [], _ => .nil
  | x :: xs, h => .cons (h x (List.mem_cons_self ..)) (paired_same fun y hy => h y (List.mem_cons_of_mem _ hy))
theorem paired_some {α β : Type} {g : β → Option α} : ∀ {xs : List α} {ys : List β}, xs.map some = ys.map g → Paired (fun x y => g y = some x) xs ys
  | [], [], _ => .nil
  | x :: xs, y :: ys, h => by
    rw [List.map_cons, List.map_cons] at h
    injection h with h1 h2
    exact .cons h1.symm (paired_some h2)
  | [], y :: ys, h => by cases h
  | x :: xs, [], h => by cases h
theorem hdFs_lv (y : Addr) (h : HdR) : lk (hdFs y h) "level" = some (.int h.level) := by
  obtain ⟨a, fl, st, lv, tm, fm, nm, cl, fs⟩ := h
  cases st <;> kernel_rfl
theorem lgF_lk2 (y fl : Addr) (nm : Str) (lv : Int) (pr di : Bool) (hl : Addr) (pa : V) : lk (lgF y fl nm lv pr di hl pa) "disabled" = some (.bl di) ∧ lk (lgF y fl nm lv pr di hl pa) "level" = some (.int lv) ∧ lk (lgF y fl nm lv pr di hl pa) "propagate" = some (.bl pr) := ⟨by kernel_rfl, by kernel_rfl, by kernel_rfl⟩
section
variable {w : World} {K : PySem.W.Frag} {mg : Str → Option Value}
theorem HdOk.hv (T : Txt w K mg) {H : Hp} {tg : Addr → Option Tg} {y : Addr} {i : Nat} {r : HdR} {h : HP} (x : HdOk K H tg y i r) (f : HdFit r h) : HVat K H (.ref r.a) (hvOf h) := by
  obtain ⟨dx, e⟩ := x.aE
  have hc := (hc_of K r.st).hcls T
  refine ⟨r.a, _, dx, _, r.fl, _, rfl, e, hc.cl, hc.level, hc.filters, ?_, (hdFs_lk ..).1, x.flE, ?_⟩
  · rw [hdFs_lv, f.level]
    rfl
  · have z := congrArg List.length f.fs
    rw [List.length_map, List.length_map] at z
    rw [List.length_map, List.length_map]
    exact z
theorem LgOk.lv {H : Hp} {tg : Addr → Option Tg} {y : Addr} {k : Str} {r : LgR} {v : LV} (x : LgOk K H tg y k r) (h1 : r.dis = v.dis) (h2 : r.level = v.level) (h3 : r.prop = v.prop) (h4 : r.fs.length = v.nf) (h5 : Paired (HVat K H) (r.hs.map V.ref) v.hs) : LVat K H r.a v := by
  obtain ⟨dx, e⟩ := x.aE
  refine ⟨dx, _, r.fl, r.hl, _, _, e, ?_, ?_, ?_, (lgF_lk ..).2.2.2.2.2.2.1, (lgF_lk ..).2.2.2.2.2.2.2, x.flE, by rw [List.length_map, List.length_map]; exact h4, x.hlE, h5⟩
  · rw [(lgF_lk2 ..).1, h1]
  · rw [(lgF_lk2 ..).2.1, h2]
  · rw [(lgF_lk2 ..).2.2, h3]
theorem hs_paired {H : Hp} {hds : List HdR} {hps : List HP} {hs : List Addr} {ns : List Nat} (he : hs.map some = ns.map fun i => (hds[i]?).map (·.a)) (hp : Paired HdFit hds hps) (hv : ∀ (i : Nat) (r : HdR) (h : HP), hds[i]? = some r → HdFit r h → HVat K H (.ref r.a) (hvOf h)) :
    Paired (HVat K H) (hs.map V.ref) (ns.map (hvAt hps)) := by
  refine paired_maps (paired_some he) fun a n e => ?_
  obtain ⟨r, er, rfl⟩ := Option.map_eq_some_iff.mp e
  obtain ⟨h, eh, f⟩ := Paired.nth hp er
  rw [hvAt_some eh]
  exact hv n r h er f
theorem YardW.ydv {H : Hp} {tg : Addr → Option Tg} {Y : YD} (h : YardW K H tg Y) (f : Str → LV) (h0 : LVat K H Y.root.a (f "")) (hl : ∀ x ∈ Y.lgs, LVat K H x.2.a (f x.1)) : YdV K H Y.y Y.bar (f "") (Y.lgs.map fun x => (x.1, f x.1)) := by
  obtain ⟨dy, ey⟩ := h.yE
  refine ⟨dy, _, Y.root.a, Y.lm, Y.rows, ey, (yd_lk ..).2.2.2.2.2.2.2, (yd_lk ..).2.2.2.2.2.2.1, (yd_lk ..).2.2.2.2.2.1, (yd_lk2 ..).2.2.2, h.lmE, h0, by rw [rows_keys]; exact h.nd, ?_⟩
  exact paired_same fun x hx => ⟨rfl, hl x hx⟩
end
theorem HPlanAt.hpv {N N' : Addr → Prop} {H : Hp} {a : Addr} {h : HP} (x : HPlanAt N H a h) (hN : ∀ b, N b → N' b) : HPV N' H (.ref a) (hvOf h) := by
  obtain ⟨fl, fv, n1, e1, n2, e2, _⟩ := x
  exact ⟨a, _, fl, _, rfl, hN _ n1, e1, vh_level h fl fv, vh_filters h fl fv, hN _ n2, e2, by rw [List.length_map]; rfl⟩
theorem RowAt.rwv {N N' : Addr → Prop} {H : Hp} {hps : List V} {ra : Addr} {r : RP} {zs : List HV} (x : RowAt N H ra r) (hN : ∀ b, N b → N' b) (hp : Paired (fun (n : Nat) (z : HV) => ∃ hv, hps[n]? = some hv ∧ HPV N' H hv z) r.handlers zs) :
    RWV N' H hps ra ⟨r.disabled, r.level, r.prop, r.filters.length, zs⟩ := by
  obtain ⟨hl, fl, n1, e1, n2, e2, n3, e3⟩ := x
  exact ⟨_, fl, hl, _, r.handlers, hN _ n1, e1, vr_dis r hl fl, vr_level r hl fl, vr_prop r hl fl, vr_filters r hl fl, vr_handlers r hl fl, hN _ n3, e3, by rw [List.length_map], hN _ n2, e2, hp⟩
theorem hps_paired {N N' : Addr → Prop} {H : Hp} {has : List Addr} {hps : List HP} {ns : List Nat} {more : List V} (h : Paired (HPlanAt N H) has hps) (hN : ∀ b, N b → N' b) (hn : ∀ i ∈ ns, i < hps.length) : Paired (fun (n : Nat) (z : HV) => ∃ hv, (has.map V.ref ++ more)[n]? = some hv ∧ HPV N' H hv z) ns (ns.map (hvAt hps)) := by
  have aux : Paired (fun (n : Nat) (z : HV) => ∃ hv, (has.map V.ref ++ more)[n]? = some hv ∧ HPV N' H hv z) (ns.map fun n => n) (ns.map (hvAt hps)) := paired_same fun n hn' => by
    have hl := hn n hn'
    have hla : n < has.length := by rw [Paired.length h]; exact hl
    have e : has[n]? = some has[n] := List.getElem?_eq_getElem hla
    obtain ⟨hp, ehp, q⟩ := Paired.nth h e
    refine ⟨.ref has[n], ?_, ?_⟩
    · rw [List.getElem?_append_left (by rw [List.length_map]; exact hla), List.getElem?_map, e]
      rfl
    · rw [hvAt_some ehp]
      exact q.hpv hN
  rw [List.map_id'] at aux
  exact aux
theorem pvat_of {N : Addr → Prop} {H : Hp} {p hs ws lg : Addr} {bar : Int} {hps : List V} {rws : List (Str × Addr)} (f : Str → LV) (np : N p) (ep : H p = some (.dK (planK hs ws lg bar))) (nh : N hs) (eh : H hs = some (.lst hps)) (nd : (rws.map (·.1)).Nodup) (hl : ∀ r ∈ rws, RWV N H hps r.2 (f r.1)) :
    PVat N H p lg bar rws (rws.map fun x => (x.1, f x.1)) := by
  refine ⟨_, hs, hps, np, ep, vk_bar hs ws lg bar, vk_handlers hs ws lg bar, vk_loggers hs ws lg bar, nh, eh, nd, ?_⟩
  have z := paired_same (F := fun (x : Str × Addr) (z : Str × LV) => x.1 = z.1 ∧ RWV N H hps x.2 z.2) (f := fun x => x) (g := fun x => (x.1, f x.1)) (xs := rws) fun x hx => ⟨rfl, hl x hx⟩
  rw [List.map_id'] at z
  exact z
theorem view_perm {ks keys : List Str} (hp : ks.Perm keys) (nd : keys.Nodup) (h0 : ("" : Str) ∈ keys) (f : Str → LV) : (keys.map fun k => (k, f k)).Perm (("", f "") :: (ks.filter fun z : Str => decide (z ≠ ("" : Str))).map fun k => (k, f k)) := by
  have hk : ks.Nodup := hp.symm.nodup nd
  have hm : ("" : Str) ∈ ks := hp.mem_iff.mpr h0
  have e : ks.erase "" = ks.filter fun z : Str => decide (z ≠ ("" : Str)) := by
    rw [hk.erase_eq_filter]
    congr 1
    funext z
    by_cases q : z = ("" : Str) <;> simp [q]
  have z : ks.Perm (("" : Str) :: ks.filter fun z : Str => decide (z ≠ ("" : Str))) := by
    rw [← e]
    exact List.perm_cons_erase hm
  exact ((hp.symm.trans z).map fun k => (k, f k))
theorem rDd_perm {xs : List (Str × LV)} {rt : LV} {ys : List (Str × LV)} (h : xs.Perm (("", rt) :: ys)) : (rDd xs).Perm (dOf "" rt ++ rDd ys) := by
  have z := List.Perm.flatMap_right (fun x : Str × LV => dOf x.1 x.2) h
  exact z
end Ry
namespace Ry
open PySem PySem.Spec PyProof.Rows L2 He RyH
open C8 (pss_cut tCut Cal Met Mak pe_c pe_mk pe_mt pe_mt0 pe_gc)
/-! ### what never changes -/
def Soft : HO → Prop
  | .lst _ => True
  | .dK _ => True
  | .ins _ _ _ => True
  | _ => False
def KpS (H H' : Hp) : Prop := ∀ b o, H b = some o → ¬ Soft o → H' b = some o
theorem KpS.of {M : Addr → Prop} {H H' : Hp} (k : Kp M H H') (h : ∀ b o, M b → H b = some o → Soft o) : KpS H H' := fun b o e n => k b o e fun m => n (h b o m e)
theorem KpS.same {H H' : Hp} (k : Same H H') : KpS H H' := fun b o e _ => k b o e
theorem KpS.tr {H H1 H2 : Hp} (a : KpS H H1) (b : KpS H1 H2) : KpS H H2 := fun c o e n => b c o (a c o e n) n
theorem KpS.at_ {H : Hp} {p : Addr} {u o : HO} (e : H p = some u) (h : Soft u) : KpS H (L2.upd H p o) := fun b w q n => by
  rw [upd_ne (fun z => by rw [z, e] at q; cases q; exact n h)]
  exact q
theorem StAt.soft {H : Hp} {s l : Addr} {n : Nat} (h : StAt H s l n) : ∀ b o, onSt s l b → H b = some o → Soft o := fun b o m e => by
  obtain ⟨ns, a, c, e', h1, h2, _⟩ := h
  rcases m with m | m
  · rw [m, h1] at e
    cases e
    exact True.intro
  · rw [m, h2] at e
    cases e
    exact True.intro
theorem TabS.kps {H H' : Hp} {P : Addr} {q : Str} (t : LamX.TabS H P q) (k : KpS H H') : LamX.TabS H' P q := by
  obtain ⟨ps, h1, h2, h3⟩ := t
  refine ⟨ps, k _ _ h1 (fun z => z), h2, fun pos cv hc => ?_⟩
  obtain ⟨c, e1, e2⟩ := h3 pos cv hc
  exact ⟨c, e1, k _ _ e2 (fun z => z)⟩
/-! ### the yard: what is made besides -/
theorem YardW.mkSet {K : PySem.W.Frag} {H H' : Hp} {tg : Addr → Option Tg} {Y : YD} (h : YardW K H tg Y) (kp : Kp (fun b => b = Y.made) H H') (xs : List Addr) (e : H' Y.made = some (.lst ((Y.hds.map fun h => V.ref h.a) ++ xs.map V.ref))) : YardW K H' tg { Y with mkx := xs } := by
  have k : KpT tg (fun t => t = .mk) H H' := fun b o e n => kp b o e fun z => n .mk (by rw [z]; exact h.tmk) rfl
  have kk : ∀ {b o t}, H b = some o → tg b = some t → t ≠ .mk → H' b = some o := fun {b o t} e et n1 => k b o e fun u z => by rw [et] at z; cases z; exact n1
  obtain ⟨dy, ey⟩ := h.yE
  obtain ⟨dl, el⟩ := h.lrE
  exact { h with
    yE := ⟨dy, kk ey h.ty (fun z => nomatch z)⟩, stE := kk h.stE h.tst (fun z => nomatch z), frE := kk h.frE h.tfr (fun z => nomatch z), noE := kk h.noE h.tno (fun z => nomatch z), nuE := kk h.nuE h.tnu (fun z => nomatch z), lmE := kk h.lmE h.tlm (fun z => nomatch z),
    mkE := e, hnE := kk h.hnE h.thn (fun z => nomatch z), faE := kk h.faE h.tfa (fun z => nomatch z), lrE := ⟨dl, kk el h.tlr (fun z => nomatch z)⟩, lrfE := kk h.lrfE h.tlf (fun z => nomatch z)
    root := ⟨h.root.1.kp k (fun z => nomatch z) (fun z => nomatch z) (fun z => nomatch z), h.root.2⟩
    lgs := fun x hx => ⟨(h.lgs x hx).1.kp k (fun z => nomatch z) (fun z => nomatch z) (fun z => nomatch z), (h.lgs x hx).2⟩
    hds := fun i x hx => (h.hds i x hx).kp k (fun z => nomatch z) (fun z => nomatch z)
    live := fun b t et => by
      by_cases z : b = Y.made
      · exact ⟨.lst _, by rw [z]; exact e, True.intro⟩
      · obtain ⟨o, q, s⟩ := h.live b t et
        exact ⟨o, kp b o q z, s⟩ }
/-! ### the end: what the two tell -/
theorem lk_app {fs gs : List (Str × V)} {f : Str} {v : V} (h : lk fs f = some v) : lk (fs ++ gs) f = some v := by
  unfold lk at h ⊢
  rw [List.lookup_append, h]
  rfl
theorem lk_app0 {fs gs : List (Str × V)} {f : Str} (h : lk fs f = none) (h2 : lk gs f = none) : lk (fs ++ gs) f = none := by
  unfold lk at h h2 ⊢
  rw [List.lookup_append, h, h2]
  rfl
theorem hd0_lk (y fl : Addr) : lk (hd0 y fl) "yard" = some (.ref y) ∧ lk (hd0 y fl) "setLevel" = none := ⟨by kernel_rfl, by kernel_rfl⟩
theorem hdB_lk (y fl : Addr) (i : Int) : lk (hdB y fl i .non .non "
" false) "level" = some (.int i) ∧ lk (hdB y fl i .non .non "
" false) "filters" = some (.ref fl) := ⟨by kernel_rfl, by kernel_rfl⟩
theorem hd0_level (y fl : Addr) (i : Int) (ex : List (Str × V)) : putF "level" (.int i) (hd0 y fl ++ ex) = hdB y fl i .non .non "
" false ++ ex := by kernel_rfl
theorem pr_filters (r : RP) (hl fl x : Addr) : putK (rpK r hl fl) (kS "filters") (.ref x) = rpK r hl x := by kernel_rfl
theorem pr_handlers (r : RP) (hl fl x : Addr) : putK (rpK r hl fl) (kS "handlers") (.ref x) = rpK r x fl := by kernel_rfl
section
variable {w : World} {K : PySem.W.Frag} {mg : Str → Option Value}
theorem LgFit.lv (T : Txt w K mg) {H : Hp} {tg : Addr → Option Tg} {y : Addr} {k : Str} {r : LgR} {row : RP} {hds : List HdR} {hps : List HP} (f : LgFit hds r row) (x : LgOk K H tg y k r) (hp : Paired HdFit hds hps) (hok : ∀ (i : Nat) (r : HdR), hds[i]? = some r → HdOk K H tg y i r) : LVat K H r.a (lvOf hps row) := by
  refine x.lv f.dis f.level f.prop ?_ (hs_paired f.hs hp fun i r h e q => (hok i r e).hv T q)
  have z := congrArg List.length f.fs
  rw [List.length_map, List.length_map] at z
  exact z
/-- the yard's view, one logger otherwise -/
theorem odd_ydv (T : Txt w K mg) {H : Hp} {tg : Addr → Option Tg} {Y Y2 : YD} {pl : Pl} {ks : List Str} {nm : Str} {r0 r' : LgR} {v : LV} (hY : YardW K H tg Y2) (fit : YFit Y pl ks) (nd : (pl.loggers.map (·.1)).Nodup) (ndl : (Y.lgs.map (·.1)).Nodup) (ey : Y2.y = Y.y) (eb : Y2.bar = Y.bar) (eh : Y2.hds = Y.hds)
    (er : Y2.root = (Y.putLg nm r').root) (el : Y2.lgs = (Y.putLg nm r').lgs) (e0 : Y.lgAt nm = some r0) (ha : r'.a = r0.a) (hv : LVat K H r'.a v) :
    YdV K H Y.y pl.bar (if ("" : Str) = nm then v else lvOf pl.handlers (rowOf pl "")) ((ks.filter fun z : Str => decide (z ≠ ("" : Str))).map fun k => (k, if k = nm then v else lvOf pl.handlers (rowOf pl k))) := by
  have hok : ∀ (i : Nat) (r : HdR), Y.hds[i]? = some r → HdOk K H tg Y2.y i r := fun i r e => hY.hds i r (by rw [eh]; exact e)
  have z := hY.ydv (fun k => if k = nm then v else lvOf pl.handlers (rowOf pl k)) ?_ ?_
  · rw [ey, eb, fit.bar] at z
    have e : (Y2.lgs.map fun x => (x.1, if x.1 = nm then v else lvOf pl.handlers (rowOf pl x.1))) = ((ks.filter fun z : Str => decide (z ≠ ("" : Str))).map fun k => (k, if k = nm then v else lvOf pl.handlers (rowOf pl k))) := by
      rw [← fit.keys, ← put_keys (k := nm) (r := r'), ← el, List.map_map]
      rfl
    rw [e] at z
    exact z
  · show LVat K H Y2.root.a (if ("" : Str) = nm then v else lvOf pl.handlers (rowOf pl ""))
    by_cases en : ("" : Str) = nm
    · rw [if_pos en, er, put_rt, if_pos en.symm]
      exact hv
    · rw [if_neg en]
      obtain ⟨row, hrow, f⟩ := fit.root
      rw [rowOf_eq nd hrow]
      have q := hY.root.1
      have e2 : Y2.root = Y.root := by rw [er, put_rt, if_neg (fun z => en z.symm)]
      rw [e2] at q ⊢
      exact f.lv T q fit.hds hok
  · intro x hx
    show LVat K H x.2.a (if x.1 = nm then v else lvOf pl.handlers (rowOf pl x.1))
    have hx' := hx
    rw [el] at hx'
    rcases put_mem hx' with ⟨ne, rfl⟩ | ⟨hx2, hne⟩
    · rw [if_pos rfl]
      exact hv
    · have hxn : x.1 ≠ nm := by
        by_cases en : nm = ""
        · rw [en]
          exact logMenu_em (hY.lgs x hx).2.2
        · exact hne en
      rw [if_neg hxn]
      obtain ⟨row, hrow, f⟩ := (fit.lgs x hx2).2
      rw [rowOf_eq nd hrow]
      exact f.lv T (hY.lgs x hx).1 fit.hds hok
end
end Ry
namespace Ry
open PySem PySem.Spec PyProof.Rows L2 He RyH
open C8 (pss_cut tCut Cal Met Mak pe_c pe_mk pe_mt pe_mt0 pe_gc)
/-! ### odd things are hung on a logger -/
/-- the stream changes, the yard stays -/
theorem YardW.st {K : PySem.W.Frag} {tg : Addr → Option Tg} {Y : YD} {H H' : Hp} {s l : Addr} {n : Nat} (yw : YardW K H tg Y) (k : Kp (onSt s l) H H') (h : StAt H s l n) (ts : tg s = none) (tl : tg l = none) : YardW K H' tg Y := by
  refine yw.kpu fun b o e z => k b o e fun m => ?_
  have hb : tg b = none := by
    rcases m with m | m
    · rw [m]; exact ts
    · rw [m]; exact tl
  refine z hb ?_
  obtain ⟨ns, a, c, e', h1, h2, _⟩ := h
  rcases m with m | m
  · rw [m, h1] at e
    cases e
    exact True.intro
  · rw [m, h2] at e
    cases e
    exact True.intro
theorem YardW.ext {K : PySem.W.Frag} {tg : Addr → Option Tg} {Y : YD} {H H' : Hp} (yw : YardW K H tg Y) (k : LamX.ExtN H H') : YardW K H' tg Y := by
  refine yw.kpu fun b o e z => k b o e fun ps q => ?_
  subst q
  cases w : tg b with
  | none => exact z w True.intro
  | some t =>
    obtain ⟨o', e', s⟩ := yw.live b t w
    rw [e] at e'
    cases e'
    exact s
theorem StAt.ext {H H' : Hp} {s l : Addr} {n : Nat} (h : StAt H s l n) (k : LamX.ExtN H H') : StAt H' s l n := by
  obtain ⟨ns, a, c, e, h1, h2, r⟩ := h
  exact ⟨ns, a, c, e, k _ _ h1 (fun _ z => nomatch z), k _ _ h2 (fun _ z => nomatch z), r⟩
theorem Paired.implM {α β : Type} {F G : α → β → Prop} : ∀ {xs : List α} {ys : List β}, Paired F xs ys → (∀ x y, x ∈ xs → F x y → G x y) → Paired G xs ys
  | _, _, .nil, _ => .nil
  | _, _, .cons r t, h => .cons (h _ _ (List.mem_cons_self ..) r) (Paired.implM t fun x y hx => h x y (List.mem_cons_of_mem _ hx))
theorem hps_paired2 {N' : Addr → Prop} {H : Hp} {has : List Addr} {hps : List HP} {ns : List Nat} {more : List V} (h : Paired (fun a x => HPV N' H (.ref a) (hvOf x)) has hps) (hn : ∀ i ∈ ns, i < hps.length) : Paired (fun (n : Nat) (z : HV) => ∃ hv, (has.map V.ref ++ more)[n]? = some hv ∧ HPV N' H hv z) ns (ns.map (hvAt hps)) := by
  have aux : Paired (fun (n : Nat) (z : HV) => ∃ hv, (has.map V.ref ++ more)[n]? = some hv ∧ HPV N' H hv z) (ns.map fun n => n) (ns.map (hvAt hps)) := paired_same fun n hn' => by
    have hl := hn n hn'
    have hla : n < has.length := by rw [Paired.length h]; exact hl
    have e : has[n]? = some has[n] := List.getElem?_eq_getElem hla
    obtain ⟨hp, ehp, q⟩ := Paired.nth h e
    refine ⟨.ref has[n], ?_, ?_⟩
    · rw [List.getElem?_append_left (by rw [List.length_map]; exact hla), List.getElem?_map, e]
      rfl
    · rw [hvAt_some ehp]
      exact q
  rw [List.map_id'] at aux
  exact aux
/-- what may change in the second half -/
def OddM (H3 : Hp) (tg : Addr → Option Tg) (s l ra hs : Addr) : Addr → Prop := fun b => b = ra ∨ b = hs ∨ onSt s l b ∨ (∃ ps, H3 b = some (.tbl ps)) ∨ ∃ t, tg b = some t
/-- the plan's copy, one row otherwise -/
theorem odd_hpv {N : Addr → Prop} {H H3 H' : Hp} {tg : Addr → Option Tg} {s l q hs ws lg ra : Addr} {hps : List Addr} {wvs : List V} {rows : List (Str × Addr)} {pl : Pl} {nm : Str}
    (W : PlanW (OrNew N H) H3 q hs ws lg hps wvs rows pl) (dis : ∀ r ∈ rows, r.2 ∉ hps) (hra : rows.lookup nm = some ra) (off : ∀ b, OrNew N H b → ¬ onSt s l b ∧ tg b = none) (k : Kp (OddM H3 tg s l ra hs) H3 H') :
    H' lg = some (.dK (rows.map rowE)) ∧ Paired (fun a x => HPV (fun b => b ≠ lg) H' (.ref a) (hvOf x)) hps pl.handlers := by
  have rain : (nm, ra) ∈ rows := lookup_mem hra
  have keep : ∀ {b : Addr} {o : HO}, H3 b = some o → OrNew N H b → (∀ ps, o ≠ .tbl ps) → b ≠ ra → b ≠ hs → H' b = some o := fun {b o} e n t n1 n2 => k b o e fun z => by
    rcases z with z | z | z | ⟨ps, z⟩ | ⟨t', z⟩
    · exact n1 z
    · exact n2 z
    · exact (off b n).1 z
    · rw [e] at z; exact t ps (Option.some.inj z)
    · rw [(off b n).2] at z; cases z
  have hkeys := rows_keysP W.lgP
  have hdl : ∀ {a : Addr} {kv : List (Key × V)}, H3 a = some (.dK kv) → a ≠ hs := fun e => ne_of e W.hsE fun z => nomatch z
  -- ra stands as a dict
  obtain ⟨i0, hi0, ei0⟩ := List.getElem_of_mem rain
  obtain ⟨y0, ey0, hy0, hl0, fl0, nra, era3, _⟩ := Paired.nth W.lgP (show rows[i0]? = some (nm, ra) by rw [List.getElem?_eq_getElem hi0, ei0])
  have lra : ∀ {a : Addr} {xs : List V}, H3 a = some (.lst xs) → a ≠ ra := fun e => ne_of e era3 fun z => nomatch z
  have elg : H' lg = some (.dK (rows.map rowE)) := keep W.lgE W.nl (fun _ z => nomatch z) (fun z => nra.2.2.2.2 z.symm) (fun z => W.d5 z.symm)
  have hpv : Paired (fun a x => HPV (fun b => b ≠ lg) H' (.ref a) (hvOf x)) hps pl.handlers := Paired.implM W.hsP fun a x ha z => by
    obtain ⟨fl, fv, n1, e1, n2, e2, _⟩ := z
    exact ⟨a, _, fl, _, rfl, n1.2.2.2.2, keep e1 n1.1 (fun _ z => nomatch z) (fun z => dis _ rain (by rw [← z]; exact ha)) n1.2.2.1, vh_level x fl fv, vh_filters x fl fv, n2.2.2.2.2, keep e2 n2.1 (fun _ z => nomatch z) (lra e2) n2.2.2.1, by rw [List.length_map]; rfl⟩
  exact ⟨elg, hpv⟩
theorem odd_pvat {N : Addr → Prop} {H H3 H' : Hp} {tg : Addr → Option Tg} {s l q hs ws lg ra : Addr} {hps : List Addr} {wvs : List V} {rows : List (Str × Addr)} {pl : Pl} {nm : Str} {row : RP} {v : LV} {more : List V} {fl1 hl1 : Addr} {ys1 : List V} {ats : List Nat}
    (W : PlanW (OrNew N H) H3 q hs ws lg hps wvs rows pl) (ndR : (rows.map (·.2)).Nodup) (dis : ∀ r ∈ rows, r.2 ∉ hps) (nd : (pl.loggers.map (·.1)).Nodup) (hok : ∀ x ∈ pl.loggers, RPok pl.handlers.length x.2) (hra : rows.lookup nm = some ra) (hrow : (nm, row) ∈ pl.loggers)
    (off : ∀ b, OrNew N H b → ¬ onSt s l b ∧ tg b = none) (k : Kp (OddM H3 tg s l ra hs) H3 H') (era : H' ra = some (.dK (rpK row hl1 fl1))) (nf : fl1 ≠ lg) (efl : H' fl1 = some (.lst ys1)) (hnf : ys1.length = v.nf) (nh : hl1 ≠ lg) (ehl : H' hl1 = some (.lst (ats.map natV))) (ehs : H' hs = some (.lst (hps.map V.ref ++ more)))
    (hv : v.dis = row.disabled ∧ v.level = row.level ∧ v.prop = row.prop)
    (hzs : Paired (fun (n : Nat) (z : HV) => ∃ hv, (hps.map V.ref ++ more)[n]? = some hv ∧ HPV (fun b => b ≠ lg) H' hv z) ats v.hs) :
    PVat (fun b => b ≠ lg) H' q lg pl.bar rows (rows.map fun x => (x.1, if x.1 = nm then v else lvOf pl.handlers (rowOf pl x.1))) := by
  have rain : (nm, ra) ∈ rows := lookup_mem hra
  have keep : ∀ {b : Addr} {o : HO}, H3 b = some o → OrNew N H b → (∀ ps, o ≠ .tbl ps) → b ≠ ra → b ≠ hs → H' b = some o := fun {b o} e n t n1 n2 => k b o e fun z => by
    rcases z with z | z | z | ⟨ps, z⟩ | ⟨t', z⟩
    · exact n1 z
    · exact n2 z
    · exact (off b n).1 z
    · rw [e] at z; exact t ps (Option.some.inj z)
    · rw [(off b n).2] at z; cases z
  have hkeys := rows_keysP W.lgP
  have hdl : ∀ {a : Addr} {kv : List (Key × V)}, H3 a = some (.dK kv) → a ≠ hs := fun e => ne_of e W.hsE fun z => nomatch z
  -- ra stands as a dict
  obtain ⟨i0, hi0, ei0⟩ := List.getElem_of_mem rain
  obtain ⟨y0, ey0, hy0, hl0, fl0, nra, era3, _⟩ := Paired.nth W.lgP (show rows[i0]? = some (nm, ra) by rw [List.getElem?_eq_getElem hi0, ei0])
  have lra : ∀ {a : Addr} {xs : List V}, H3 a = some (.lst xs) → a ≠ ra := fun e => ne_of e era3 fun z => nomatch z
  have elg : H' lg = some (.dK (rows.map rowE)) := keep W.lgE W.nl (fun _ z => nomatch z) (fun z => nra.2.2.2.2 z.symm) (fun z => W.d5 z.symm)
  have hpv : Paired (fun a x => HPV (fun b => b ≠ lg) H' (.ref a) (hvOf x)) hps pl.handlers := Paired.implM W.hsP fun a x ha z => by
    obtain ⟨fl, fv, n1, e1, n2, e2, _⟩ := z
    exact ⟨a, _, fl, _, rfl, n1.2.2.2.2, keep e1 n1.1 (fun _ z => nomatch z) (fun z => dis _ rain (by rw [← z]; exact ha)) n1.2.2.1, vh_level x fl fv, vh_filters x fl fv, n2.2.2.2.2, keep e2 n2.1 (fun _ z => nomatch z) (lra e2) n2.2.2.1, by rw [List.length_map]; rfl⟩
  refine pvat_of (fun x => if x = nm then v else lvOf pl.handlers (rowOf pl x)) W.d3 (keep W.at_ W.np (fun _ z => nomatch z) (fun z => nra.2.1 z.symm) W.d1) W.d5 ehs (by rw [hkeys]; exact nd) fun r hr => ?_
  show RWV (fun b => b ≠ lg) H' _ r.2 (if r.1 = nm then v else lvOf pl.handlers (rowOf pl r.1))
  obtain ⟨i, hi, ei⟩ := List.getElem_of_mem hr
  have er : rows[i]? = some r := by rw [List.getElem?_eq_getElem hi, ei]
  obtain ⟨y, ey, hk, hl, fl, n1, e1, n2, e2, n3, e3⟩ := Paired.nth W.lgP er
  have hmy := List.mem_of_getElem? ey
  by_cases en : r.1 = nm
  · rw [if_pos en]
    have hr2 : r.2 = ra := by
      have z := mem_lookup (k := r.1) (v := r.2) (by rw [hkeys]; exact nd) hr
      rw [en, hra] at z
      exact (Option.some.inj z).symm
    rw [hr2]
    exact ⟨_, fl1, hl1, ys1, ats, nra.2.2.2.2, era, by rw [hv.1]; exact vr_dis row hl1 fl1, by rw [hv.2.1]; exact vr_level row hl1 fl1, by rw [hv.2.2]; exact vr_prop row hl1 fl1, vr_filters row hl1 fl1, vr_handlers row hl1 fl1, nf, efl, hnf, nh, ehl, hzs⟩
  · rw [if_neg en]
    have hya : (r.1, y.2) ∈ pl.loggers := by
      have z : r.1 = y.1 := hk
      rw [z]
      exact hmy
    rw [rowOf_eq nd hya]
    have hne : r.2 ≠ ra := fun z => by
      have q1 : (rows.map (·.2))[i]? = some ra := by rw [List.getElem?_map, er, ← z]; rfl
      have q2 : (rows.map (·.2))[i0]? = some ra := by rw [List.getElem?_map, List.getElem?_eq_getElem hi0, ei0]; rfl
      have q3 := nodup_inj ndR q1 q2
      subst q3
      rw [List.getElem?_eq_getElem hi0, ei0] at er
      exact en (congrArg Prod.fst (Option.some.inj er)).symm
    have ra' : RowAt (fun b => b ≠ lg) H' r.2 y.2 := ⟨hl, fl, n1.2.2.2.2, keep e1 n1.1 (fun _ z => nomatch z) hne n1.2.2.1, n2.2.2.2.2, keep e2 n2.1 (fun _ z => nomatch z) (lra e2) n2.2.2.1, n3.2.2.2.2, keep e3 n3.1 (fun _ z => nomatch z) (lra e3) n3.2.2.1⟩
    exact ra'.rwv (fun _ z => z) (hps_paired2 hpv fun i hi => (hok y hmy).handlers i hi)
def OffN (tg : Addr → Option Tg) (s l P : Addr) : Addr → Prop := fun b => tg b = none ∧ ¬ onSt s l b ∧ b ≠ P
abbrev lamQ : Str := "_law_odd.<locals>." ++ "<lambda>"
def spOdd (K : PySem.W.Frag) (P : Addr) : Sp := fun vs H Q _ => ∃ (s l p : Addr) (n : Nat) (tg : Addr → Option Tg) (Y : YD) (pl : Pl) (ks : List Str) (lo ha : Nat), vs = [.ref s, .ref Y.y, .ref p] ∧ StAt H s l n ∧ n + 50 < Bud ∧ YardW K H tg Y ∧ YFit Y pl ks ∧ PlOk lo ha pl ∧ lo ≤ 20 ∧ ha ≤ 20 ∧
  PlanAt (OffN tg s l P) H p pl ∧ tg s = none ∧ tg l = none ∧ tg P = none ∧ LamX.TabS H P lamQ ∧
  ∀ (q lg : Addr) (rws : List (Str × Addr)) (f : Str → LV) (H' : Hp), H' lg = some (.dK (rws.map rowE)) → rws.map (·.1) = pl.loggers.map (·.1) → PVat (fun b => b ≠ lg) H' q lg pl.bar rws (rws.map fun x => (x.1, f x.1)) → YdV K H' Y.y pl.bar (f "") ((ks.filter fun z : Str => decide (z ≠ ("" : Str))).map fun k => (k, f k)) →
    (∀ k ∈ pl.loggers.map (·.1), LVok (f k)) → LamX.TabS H' P lamQ → StAt H' s l (n + 50) → Q (.ref q) H'
theorem nofree {l : List (Str × NameKind)} {Q : Str × NameKind → Prop} (h : l.all (fun y => !decide (y.2 = .free)) = true) : ∀ y ∈ l, y.2 = .free → Q y := fun y hy e => by
  have z := List.all_eq_true.mp h y hy
  rw [e] at z
  simp at z
theorem lamT (P : Addr) (q : Str) : ∀ p ∈ [(P, q)], p.1 = P → p.2 = q := fun p hp _ => by rw [List.mem_singleton.mp hp]
/-! ### a state on the way -/
structure OS (K : PySem.W.Frag) (tg : Addr → Option Tg) (s l ptb : Addr) (H3 : Hp) (ra hs : Addr) (row : RP) (hl fl1 : Addr) (ys1 : List V) (hps : List Addr) (Yx : YD) (m : Nat) (H' : Hp) : Prop where
  yw : YardW K H' tg Yx
  st : StAt H' s l m
  T : LamX.TabS H' ptb lamQ
  kO : Kp (OddM H3 tg s l ra hs) H3 H'
  era : H' ra = some (.dK (rpK row hl fl1))
  efl : H' fl1 = some (.lst ys1)
  ehs : H' hs = some (.lst (hps.map V.ref))
  nn : ∀ b, H' b = none → H3 b = none
  ts : tg s = none
  tl : tg l = none
  ro : ¬ onSt s l ra ∧ tg ra = none
  fo : ¬ onSt s l fl1 ∧ tg fl1 = none
  ho : ¬ onSt s l hs ∧ tg hs = none
section
variable {K : PySem.W.Frag} {tg : Addr → Option Tg} {s l ptb : Addr} {H3 H' H'' : Hp} {ra hs : Addr} {row : RP} {hl fl1 : Addr} {ys1 : List V} {hps : List Addr} {Yx : YD} {m m' : Nat}
theorem OS.same (h : OS K tg s l ptb H3 ra hs row hl fl1 ys1 hps Yx m H') (k : Same H' H'') : OS K tg s l ptb H3 ra hs row hl fl1 ys1 hps Yx m H'' :=
  { h with yw := h.yw.same k, st := h.st.kp (Kp.same (M := fun _ => False) k) (fun z => z) (fun z => z), T := TabS.kps h.T (KpS.same k), kO := h.kO.trans (Kp.same k), era := k _ _ h.era, efl := k _ _ h.efl, ehs := k _ _ h.ehs, nn := fun b e => h.nn b (Same.was k e) }
theorem OS.draw (h : OS K tg s l ptb H3 ra hs row hl fl1 ys1 hps Yx m H') (k : Kp (onSt s l) H' H'') (st' : StAt H'' s l m') : OS K tg s l ptb H3 ra hs row hl fl1 ys1 hps Yx m' H'' :=
  { h with yw := h.yw.st k h.st h.ts h.tl, st := st', T := TabS.kps h.T (KpS.of k fun b o m e => h.st.soft b o m e), kO := h.kO.trans (k.mono fun b m => .inr (.inr (.inl m))), era := k _ _ h.era h.ro.1, efl := k _ _ h.efl h.fo.1, ehs := k _ _ h.ehs h.ho.1, nn := fun b e => h.nn b (k.was st' e) }
theorem OS.made (h : OS K tg s l ptb H3 ra hs row hl fl1 ys1 hps Yx m H') (k : Kp (fun b => b = Yx.made) H' H'') (xs : List Addr) (e : H'' Yx.made = some (.lst ((Yx.hds.map fun h => V.ref h.a) ++ xs.map V.ref))) : OS K tg s l ptb H3 ra hs row hl fl1 ys1 hps { Yx with mkx := xs } m H'' :=
  have off : ∀ {b : Addr}, tg b = none → b ≠ Yx.made := fun {b} t z => by rw [z, h.yw.tmk] at t; cases t
  { h with yw := h.yw.mkSet k xs e, st := h.st.kp k (off h.ts) (off h.tl), T := TabS.kps h.T (KpS.of k fun b o m e => by rw [m, h.yw.mkE] at e; cases e; exact True.intro), kO := h.kO.trans (k.mono fun b m => .inr (.inr (.inr (.inr ⟨.mk, by rw [m]; exact h.yw.tmk⟩)))), era := k _ _ h.era (off h.ro.2), efl := k _ _ h.efl (off h.fo.2), ehs := k _ _ h.ehs (off h.ho.2), nn := fun b z => h.nn b (k.free z fun c m => by rw [m, e]; exact fun z => nomatch z) }
theorem OS.big (h : OS K tg s l ptb H3 ra hs row hl fl1 ys1 hps Yx m H') {x : Addr} {C dx : Addr} {fs : List (Str × V)} {o : HO} (e : H' x = some (.ins C dx fs)) (hb : 7 ≤ fs.length) (t : tg x = none) (h3 : H3 x = none) : OS K tg s l ptb H3 ra hs row hl fl1 ys1 hps Yx m (L2.upd H' x o) :=
  have hx : ¬ onSt s l x := fun z => by
    obtain ⟨ns, a, c, e', q1, q2, _⟩ := h.st
    rcases z with z | z
    · rw [z, q1] at e; cases e
    · rw [z, q2] at e; cases e
  { h with yw := h.yw.kpu (KpU.at_ t e hb), st := h.st.upd hx, T := TabS.kps h.T (KpS.at_ e True.intro), kO := h.kO.wr h3, era := by rw [upd_ne (ne_of h.era e fun z => nomatch z)]; exact h.era, efl := by rw [upd_ne (ne_of h.efl e fun z => nomatch z)]; exact h.efl, ehs := by rw [upd_ne (ne_of h.ehs e fun z => nomatch z)]; exact h.ehs, nn := fun b z => h.nn b (was_none z) }
theorem OS.tag (h : OS K tg s l ptb H3 ra hs row hl fl1 ys1 hps Yx m H') {x : Addr} {t : Tg} {xs : List V} {o : HO} {Y2 : YD} (e : H' x = some (.lst xs)) (et : tg x = some t) (y2 : YardW K (L2.upd H' x o) tg Y2) : OS K tg s l ptb H3 ra hs row hl fl1 ys1 hps Y2 m (L2.upd H' x o) :=
  have off : ∀ {b : Addr}, tg b = none → b ≠ x := fun {b} q z => by rw [z, et] at q; cases q
  { h with yw := y2, st := h.st.upd fun z => by rcases z with z | z <;> first | exact off h.ts z.symm | exact off h.tl z.symm, T := TabS.kps h.T (KpS.at_ e True.intro), kO := h.kO.trans (Kp.at (.inr (.inr (.inr (.inr ⟨_, et⟩))))), era := by rw [upd_ne (off h.ro.2)]; exact h.era, efl := by rw [upd_ne (off h.fo.2)]; exact h.efl, ehs := by rw [upd_ne (off h.ho.2)]; exact h.ehs, nn := fun b z => h.nn b (was_none z) }
theorem OS.rowSet (h : OS K tg s l ptb H3 ra hs row hl fl1 ys1 hps Yx m H') (hl2 : Addr) : OS K tg s l ptb H3 ra hs row hl2 fl1 ys1 hps Yx m (L2.upd H' ra (.dK (rpK row hl2 fl1))) :=
  { h with yw := h.yw.kpu (KpU.at_ h.ro.2 h.era fun z => nomatch z), st := h.st.upd h.ro.1, T := TabS.kps h.T (KpS.at_ h.era True.intro), kO := h.kO.trans (Kp.at (.inl rfl)), era := upd_same, efl := by rw [upd_ne (ne_of h.efl h.era fun z => nomatch z)]; exact h.efl, ehs := by rw [upd_ne (ne_of h.ehs h.era fun z => nomatch z)]; exact h.ehs, nn := fun b z => h.nn b (was_none z) }
theorem OS.kp (h : OS K tg s l ptb H3 ra hs row hl fl1 ys1 hps Yx m H') {b : Addr} {o : HO} (e : H3 b = some o) (t : ∀ ps, o ≠ .tbl ps) (n : ¬ onSt s l b ∧ tg b = none) (n1 : b ≠ ra) (n2 : b ≠ hs) : H' b = some o := h.kO b o e fun z => by
  rcases z with z | z | z | ⟨ps, z⟩ | ⟨t', z⟩
  · exact n1 z
  · exact n2 z
  · exact n.1 z
  · rw [e] at z; exact t ps (Option.some.inj z)
  · rw [n.2] at z; cases z
end
theorem put_mkx {Y : YD} {k : Str} {r : LgR} {M : List Addr} : ({ Y.putLg k r with mkx := M } : YD) = ({ Y with mkx := M } : YD).putLg k r := by
  by_cases e : k = ""
  · subst e
    rw [put_root, put_root]
  · rw [put_ne e, put_ne e]
    rfl
section
variable {P : Program} {w : World} {K : PySem.W.Frag} {mg : Str → Option Value} {base : Heap}
theorem sc_law_odd : FnScope ["_law_stream", "_law_yard_here", "_law_plan_here", "_law_found", "_law_name", "_law_logger", "_law_row", "_law_handler_here"] ["_law_stream", "_law_yard_here", "_law_plan_here"] (defScope s_law_odd) := ⟨rfl, rfl, rfl, by decide +kernel, rfl, by decide +kernel, by decide +kernel⟩
theorem cal_law_odd (T : Txt w K mg) {ptb : Addr} (TB : LamX.TabB base mg (He.codeOf K ("_law_odd", none)) ptb) : Cal P w K mg base 5 "_law_odd" (spOdd K ptb) [] := by
  obtain ⟨fd, F⟩ := T.df_law_odd
  have c_law_copied := cal_law_copied (P := P) (base := base) T
  have c_law_pick := cal_law_pick (P := P) (base := base) T
  have c_Yard_getLogger := met_Yard_getLogger (P := P) (base := base) T
  have c_law_draw := cal_law_draw (P := P) (base := base) T
  have c_Logger_addFilter := met_Logger_addFilter (P := P) (base := base) T
  have c_mk_MemoryHandler := mk_MemoryHandler (P := P) (base := base) T
  have c_mk_QueueHandler := mk_QueueHandler (P := P) (base := base) T
  have c_mk_Queue := mk_Queue (P := P) (base := base) T
  have c_OddH_setLevel := met_OddH_setLevel (P := P) (base := base) T
  have c_Logger_addHandler := met_Logger_addHandler (P := P) (base := base) T
  refine ⟨_, fd, ["_law_stream", "_law_yard_here", "_law_plan_here"], [], RyL.okC (p := ("_law_odd", none)) F sc_law_odd (fun vs H Q E h => ?_) (fun A outer s H vs Q E hr h => ?_), T.m_law_odd, F.kp, F.bindsN (fun _ _ _ _ _ _ us hl => match us, hl with | [_, _, _], _ => rfl), .nil⟩
  · obtain ⟨_, _, _, _, _, _, _, _, _, _, rfl, _⟩ := h
    rfl
  · obtain ⟨s, l, p, n, tg, Y, pl, ks, lo, ha, rfl, hst, hn, yw, fit, hok, hlo, hha, hP, ts, tl, tP, hT, k⟩ := h
    refine ⟨_, PSs.nox (pss_cons (ps_par (i := 3) (j := 4) (by rfl) sc_law_odd.nd rfl rfl (by decide) rfl rfl (pa_cons (pe_c c_law_copied hr (by decide) (by rfl) (pa_cons (pv 2) pa_nil)) (pa_cons (pe_c c_law_pick hr (by decide) (by rfl) (pa_cons (pv 0) (pa_cons (pe_callB (call_sortedD rfl) (by rfl) T.f_sorted (by decide +kernel) (pa_cons (pe_dget (hu_of hr) (pv 2) pe_str (fun _ _ => rfl)) pa_nil)) pa_nil))) pa_nil)) (by rfl))
      (pss_cons (ps_par (i := 5) (j := 6) (by rfl) sc_law_odd.nd rfl rfl (by decide) rfl rfl (pa_cons (RyT.pe_cutE (pe_mt c_Yard_getLogger hr (by decide) (pv 1) (pa_cons (pv 4) pa_nil))) (pa_cons (pe_dget (hu_of hr) (pe_dget (hu_of hr) (pv 3) pe_str (fun _ _ => rfl)) (pv 4) (fun _ _ => rfl)) pa_nil)) (by rfl))
      (pss_cut (ps_if (pt_cmpR op_eq (pe_c c_law_draw hr (by decide) (by rfl) (pa_cons (pv 0) (pa_cons pe_int pa_nil))) pe_int (nomark _))
        (pss_cons (ps_expr (pe_mt c_Logger_addFilter hr (by decide) (pv 5) (pa_cons (RyL.pe_lamNew (T := [(ptb, lamQ)]) TB rfl (List.mem_singleton.mpr rfl) (lamT ptb lamQ) rfl (nofree (by kernel_rfl))) pa_nil)))
        (pss_one (ps_dput (hu_of hr) (pv 6) pe_str (pe_op op_cat (pe_dget (hu_of hr) (pv 6) pe_str (fun _ _ => rfl)) (pe_lst (pa_cons pe_str pa_nil))) rfl)))
        pss_nil)
      (pss_cut (ps_if (pt_cmpR op_eq (pe_c c_law_draw hr (by decide) (by rfl) (pa_cons (pv 0) (pa_cons pe_int pa_nil))) pe_int (nomark _))
        (pss_cons (ps_set (i := 7) sc_law_odd.nd rfl (Or.inl rfl) (pe_c c_law_pick hr (by decide) (by rfl) (pa_cons (pv 0) (pa_cons (pe_lst (pa_cons (pe_mk c_mk_MemoryHandler hr (by decide) (by rfl) (pa_cons (pv 1) (pa_cons pe_int pa_nil))) (pa_cons (pe_mk c_mk_QueueHandler hr (by decide) (by rfl) (pa_cons (pv 1) (pa_cons (pe_mk0 c_mk_Queue hr (by decide) (by rfl)) pa_nil))) pa_nil))) pa_nil))))
        (pss_cons (ps_expr (pe_any fun C hC => pe_mt (c_OddH_setLevel C hC) hr (by decide) (pv 7) (pa_cons (pe_c c_law_pick hr (by decide) (by rfl) (pa_cons (pv 0) (pa_cons (pe_lst (pa_cons pe_int (pa_cons pe_int pa_nil))) pa_nil))) pa_nil)))
        (pss_cons (ps_expr (pe_mt c_Logger_addHandler hr (by decide) (pv 5) (pa_cons (pv 7) pa_nil)))
        (pss_cons (ps_dput (hu_of hr) (pv 6) pe_str (pe_op op_cat (pe_dget (hu_of hr) (pv 6) pe_str (fun _ _ => rfl)) (pe_lst (pa_cons (pe_callB (id := "len") call_len_seq (by rfl) T.f_len PySem.boot_len (pa_cons (pe_dget (hu_of hr) (pv 3) pe_str (fun _ _ => rfl)) pa_nil)) pa_nil))) rfl)
        (pss_one (ps_expr (pe_bm PySem.F.plainAttrs_list PySem.F.slot_list_append PySem.F.type_list_append mt_append (pe_dget (hu_of hr) (pv 3) pe_str (fun _ _ => rfl)) (pa_cons (pe_disp (pps_cons pe_str (pe_fld (pv 7) rfl) (pps_cons pe_str (pe_lst pa_nil) pps_nil)) (by rfl) (by rfl) (fun z => by cases z) (by decide)) pa_nil))))))))
        pss_nil)
      (pss_one (ps_ret (pv 3))))))), ?_⟩
    obtain ⟨hs0, ws0, lg0, hps0, wvs0, rows0, W0⟩ := hP
    have hfH := hok.fewH
    have hfL := hok.fewL
    have hn0 : n + 50 < 900000 := hn
    -- copied
    refine ⟨_, rfl, ?_⟩
    refine ⟨p, pl, OffN tg s l ptb, rfl, ⟨hs0, ws0, lg0, hps0, wvs0, rows0, W0⟩, hok.nd, by omega, by omega, fun q hs ws lg hps wvs rows H1 Cw => ?_⟩
    -- pick
    have hkeys0 := rows_keysP W0.lgP
    refine ⟨_, rfl, _, rfl, p, _, rfl, dget (Cw.sm _ _ W0.at_) (vk_loggers hs0 ws0 lg0 pl.bar), ?_⟩
    refine ⟨lg0, _, rows0.map (·.1), rfl, .inl (Cw.sm _ _ W0.lgE), by rw [List.map_map, List.map_map]; rfl, by rw [hkeys0, List.length_map]; omega, fun ys L hperm hsrt hL => ?_⟩
    rw [hkeys0] at hperm
    have hyl := hperm.length_eq
    rw [List.length_map] at hyl
    have hpos : 0 < pl.loggers.length := by
      obtain ⟨x, hx, _⟩ := List.mem_map.mp hok.root
      exact List.length_pos_of_mem hx
    have hst1 : StAt H1 s l n := hst.kp (Kp.same (M := fun _ => False) Cw.sm) (fun z => z) (fun z => z)
    refine ⟨s, L, l, n, ys.map V.str, rfl, hst1.new hL, by simp only [Bud]; omega, hst1.off hL, upd_same, by rw [List.length_map]; omega, by rw [List.length_map]; omega, fun x H2 hx hst2 k2 => ?_⟩
    obtain ⟨nm, hnm, rfl⟩ := List.mem_map.mp hx
    refine ⟨_, _, rfl, ?_⟩
    have hnmk : nm ∈ pl.loggers.map (·.1) := hperm.mem_iff.mp hnm
    have K2 : Kp (onSt s l) H H2 := ((Kp.same Cw.sm).trans (Kp.new hL)).trans k2
    have K12 : Kp (onSt s l) H1 H2 := (Kp.new hL).trans k2
    have yw2 := yw.st K2 hst ts tl
    have offO : ∀ b, OrNew (OffN tg s l ptb) H b → ¬ onSt s l b ∧ tg b = none := fun b hb => by
      rcases hb with hb | hb
      · exact ⟨hb.2.1, hb.1⟩
      · exact ⟨hst.off hb, yw.untag hb⟩
    have W2 : PlanW (OrNew (OffN tg s l ptb) H) H2 q hs ws lg hps wvs rows pl := Cw.w.kp K12 fun b hb => ⟨hb, (offO b hb).1⟩
    have hT2 : LamX.TabS H2 ptb lamQ := TabS.kps hT (KpS.of K2 fun b o m e => hst.soft b o m e)
    -- getLogger
    have ⟨r0, e0, fitr⟩ : ∃ r0, Y.lgAt nm = some r0 ∧ LgFit Y.hds r0 (rowOf pl nm) := by
      by_cases en : nm = ""
      · obtain ⟨row, hrow, f⟩ := fit.root
        subst en
        exact ⟨Y.root, at_root, by rw [rowOf_eq hok.nd hrow]; exact f⟩
      · have hk : nm ∈ Y.lgs.map (·.1) := by
          rw [fit.keys]
          exact List.mem_filter.mpr ⟨fit.perm.mem_iff.mpr hnmk, decide_eq_true en⟩
        obtain ⟨x, hx5, rfl⟩ := List.mem_map.mp hk
        obtain ⟨row, hrow, f⟩ := (fit.lgs x hx5).2
        exact ⟨x.2, by rw [at_ne en]; exact mem_lookup yw.nd hx5, by rw [rowOf_eq hok.nd hrow]; exact f⟩
    refine ⟨fun v H3 => v = .ref r0.a ∧ Same H2 H3, ?_, ?_⟩
    · obtain ⟨dy, ey⟩ := yw2.yE
      refine ⟨_, rfl, Y.y, dy, _, rfl, ey, (yd_lk2 ..).2.1, _, rfl, ?_⟩
      refine ⟨Y.y, Y.lm, Y.root.a, _, Y.rows, nm, rfl, yw2.ymap, ?_⟩
      by_cases en : nm = ""
      · refine .inl ⟨en, ?_, Same.rfl'⟩
        subst en
        rw [at_root] at e0
        rw [Option.some.inj e0]
      · refine .inr (.inl ⟨?_, r0.a, ?_, fun H3 hs => ⟨rfl, hs⟩⟩)
        · obtain ⟨x, hx, e⟩ := List.mem_map.mp hnmk
          have q' := (hok.loggers x hx).1
          rw [e] at q'
          exact (List.mem_cons.mp q').resolve_left en
        · rw [at_ne en] at e0
          exact mem_lookup (by rw [rows_keys]; exact yw.nd) (rows_mem (lookup_mem e0))
    rintro _ H3 ⟨rfl, s23⟩
    have yw3 := yw2.same s23
    have W3 : PlanW (OrNew (OffN tg s l ptb) H) H3 q hs ws lg hps wvs rows pl := W2.kp (Kp.same (M := fun _ => False) s23) fun b hb => ⟨hb, fun z => z⟩
    have hst3 : StAt H3 s l (n + 1) := hst2.kp (Kp.same (M := fun _ => False) s23) (fun z => z) (fun z => z)
    have hT3 : LamX.TabS H3 ptb lamQ := TabS.kps hT2 (KpS.same s23)
    obtain ⟨ra, row, hra, hrow, hRA⟩ := row_at W3.lgP hnmk
    rw [rowOf_eq hok.nd hrow] at fitr
    have hrok : RPok pl.handlers.length row := (hok.loggers _ hrow).2
    obtain ⟨hl, fl, nra, era, nhl, ehl, nfl, efl⟩ := hRA
    refine ⟨_, rfl, q, _, rfl, dget W3.at_ (vk_loggers hs ws lg pl.bar), _, rfl, lg, .ref ra, rfl, dget W3.lgE (by rw [valV_row, hra]; rfl), _, _, rfl, ?_⟩
    clear K12 K2 k2 hst2 yw2 W2 hT2 hst1 hx hL
    have ok3 := yw3.lgOk e0
    have yp3 : YardW K H3 tg (Y.putLg nm r0) := by rw [put_self yw3.nd e0]; exact yw3
    have lfs : r0.fs.length = row.filters.length := by
      have z := congrArg List.length fitr.fs
      rw [List.length_map, List.length_map] at z
      exact z
    have hrf := hrok.fewF
    have hrh := hrok.fewH
    -- a lambda as a filter
    refine ⟨fun σ' H' => σ' = [some (.ref s), some (.ref Y.y), some (.ref p), some (.ref q), some (.str nm), some (.ref r0.a), some (.ref ra), none] ∧ StAt H' s l (n + 2) ∧ LamX.TabS H' ptb lamQ ∧ ∃ fsx fl1 ys1, YardW K H' tg (Y.putLg nm { r0 with fs := fsx }) ∧
      H' ra = some (.dK (rpK row hl fl1)) ∧ H' fl1 = some (.lst ys1) ∧ ys1.length = fsx.length ∧ fsx.length ≤ 3 ∧ fl1 ≠ lg ∧ fl1 ≠ hs ∧ (¬ onSt s l fl1 ∧ tg fl1 = none) ∧ H' hs = some (.lst (hps.map V.ref)) ∧ (∀ b, H' b = none → H3 b = none) ∧ Kp (OddM H3 tg s l ra hs) H3 H', ?_, ?_⟩
    · refine ⟨_, rfl, ?_⟩
      refine ⟨s, l, 2, _, rfl, hst3, by omega, by omega, by omega, fun b H4 _ _ hs4 k4 => ?_⟩
      have yw4 := yp3.st k4 hst3 ts tl
      have hst3b : ∀ b, H4 b = none → H3 b = none := fun b z => k4.was hs4 z
      have hT4 := TabS.kps hT3 (KpS.of k4 fun b o m e => hst3.soft b o m e)
      have kO : Kp (OddM H3 tg s l ra hs) H3 H4 := k4.mono fun b m => .inr (.inr (.inl m))
      have era4 := k4 _ _ era (offO _ nra.1).1
      have efl4 := k4 _ _ efl (offO _ nfl.1).1
      refine ⟨rfl, _, rfl, ?_⟩
      refine ite2 (fun _ => ?_) (fun _ => ?_)
      · have ok4 := yw4.lgOk (lgAt_put e0)
        rw [put_same.1] at ok4
        obtain ⟨d4, a4⟩ := ok4.aE
        refine ⟨_, rfl, r0.a, d4, _, rfl, a4, (lgF_lk ..).2.2.2.1, ?_⟩
        refine ⟨fun x hx => by rw [List.mem_singleton.mp hx]; exact hT4, fun fn H5 xe xn hT5 f0 f1 => ?_⟩
        have hT5 : LamX.TabS H5 ptb lamQ := hT5 _ (List.mem_singleton.mpr rfl)
        have yw5 := yw4.ext xe
        have ok5 := yw5.lgOk (lgAt_put e0)
        rw [put_same.1] at ok5
        have hs5 := hs4.ext xe
        have fk5 : FlOk K H5 tg (.fn fn) := ⟨yw4.untag f0, f1⟩
        have hfn : fn ∉ r0.fs.map FlR.addr := fun z => by
          obtain ⟨g, hg, e⟩ := List.mem_map.mp z
          exact (ok4.fs g hg).live (by rw [e]; exact f0)
        have kO5 : Kp (OddM H3 tg s l ra hs) H3 H5 := fun b o e nm' => xe b o (kO b o e nm') fun ps z => nm' (.inr (.inr (.inr (.inl ⟨ps, by rw [e, z]⟩))))
        refine ⟨r0.a, _, d4, r0.fl, fn, _, r0.fs.map FlR.addr, rfl, xe _ _ a4 (fun _ z => nomatch z), T.cl_Logger, T.no_Logger_filters, (lgF_lk ..).2.2.2.2.2.2.1, ok5.flE, .inr f1, fun z hz => ?_, hfn, by rw [List.length_map]; omega, ?_⟩
        · obtain ⟨g, hg, rfl⟩ := List.mem_map.mp hz
          exact (ok5.fs g hg).cmp T
        have ok6 := ok5.addF fk5
        obtain ⟨yw6, kt6⟩ := yw5.lgStep e0 ok6 rfl rfl rfl rfl (Kp.at (.inr (.inl rfl)))
        have kO6 : Kp (OddM H3 tg s l ra hs) H3 (L2.upd H5 r0.fl (.lst ((r0.fs.map FlR.addr ++ [FlR.addr (.fn fn)]).map V.ref))) := kO5.trans (Kp.at (.inr (.inr (.inr (.inr ⟨_, ok5.tf⟩)))))
        have offT : ∀ {b : Addr} {t : Tg}, tg b = some t → ¬ onSt s l b := fun {b t} e m => by
          rcases m with m | m
          · rw [m, ts] at e; cases e
          · rw [m, tl] at e; cases e
        have hs6 := hs5.upd (o := .lst ((r0.fs.map FlR.addr ++ [FlR.addr (.fn fn)]).map V.ref)) (offT ok5.tf)
        have hT6 := TabS.kps hT5 (KpS.at_ (o := .lst ((r0.fs.map FlR.addr ++ [FlR.addr (.fn fn)]).map V.ref)) ok5.flE True.intro)
        have era6 : L2.upd H5 r0.fl (.lst ((r0.fs.map FlR.addr ++ [FlR.addr (.fn fn)]).map V.ref)) ra = some (.dK (rpK row hl fl)) := by
          have z := xe _ _ era4 (fun _ z => nomatch z)
          rw [upd_ne (ne_of z ok5.flE fun z => nomatch z)]
          exact z
        have efl6 : L2.upd H5 r0.fl (.lst ((r0.fs.map FlR.addr ++ [FlR.addr (.fn fn)]).map V.ref)) fl = some (.lst (row.filters.map V.str)) := by
          have z := xe _ _ efl4 (fun _ z => nomatch z)
          rw [upd_ne (fun w => by have t := ok5.tf; rw [← w, (offO _ nfl.1).2] at t; cases t)]
          exact z
        have ehs6 : L2.upd H5 r0.fl (.lst ((r0.fs.map FlR.addr ++ [FlR.addr (.fn fn)]).map V.ref)) hs = some (.lst (hps.map V.ref)) := by
          rw [upd_ne (fun w => by have t := ok5.tf; rw [← w, (offO _ W3.nh).2] at t; cases t)]
          exact xe _ _ (k4 _ _ W3.hsE (offO _ W3.nh).1) (fun _ z => nomatch z)
        have W6 : YardW K (L2.upd H5 r0.fl (.lst ((r0.fs.map FlR.addr ++ [FlR.addr (.fn fn)]).map V.ref))) tg (Y.putLg nm { r0 with fs := r0.fs ++ [.fn fn] }) := yw6
        have e7 : L2.upd H5 r0.fl (.lst ((r0.fs.map FlR.addr ++ [fn]).map V.ref)) = L2.upd H5 r0.fl (.lst ((r0.fs.map FlR.addr ++ [FlR.addr (.fn fn)]).map V.ref)) := rfl
        have nn6 : ∀ b, L2.upd H5 r0.fl (.lst ((r0.fs.map FlR.addr ++ [FlR.addr (.fn fn)]).map V.ref)) b = none → H5 b = none := fun b z => was_none z
        rw [e7]
        generalize L2.upd H5 r0.fl (.lst ((r0.fs.map FlR.addr ++ [FlR.addr (.fn fn)]).map V.ref)) = H6 at W6 kO6 hs6 hT6 era6 efl6 ehs6 nn6 ⊢
        -- row["filters"]
        refine ⟨_, rfl, ra, _, rfl, dget era6 (vr_filters row hl fl), ssz rfl, fun l1 hl1 => ?_⟩
        refine ⟨fl, l1, _, _, rfl, rfl, upd_at efl6 hl1, upd_same, by rw [List.length_map, List.length_singleton, sizeLine_eq]; omega, fun l2 hl2 => ?_⟩
        have S6 : Same H6 (L2.upd (L2.upd H6 l1 (.lst [.str ""])) l2 (.lst (row.filters.map V.str ++ [.str ""]))) := Same.tr (Same.nw hl1) (Same.nw hl2)
        have el2 := upd_same (H := L2.upd H6 l1 (.lst [.str ""])) (a := l2) (o := .lst (row.filters.map V.str ++ [.str ""]))
        have hl26 : H6 l2 = none := Same.was (Same.nw hl1) hl2
        generalize L2.upd (L2.upd H6 l1 (.lst [.str ""])) l2 (.lst (row.filters.map V.str ++ [.str ""])) = H7 at S6 el2 ⊢
        have era7 := S6 _ _ era6
        refine ⟨_, rfl, ra, _, rfl, DPut.k (k := kS "filters") era7 (lsz rfl), ?_⟩
        rw [pr_filters]
        have h26 : ∀ {b o}, H3 b = some o → l2 ≠ b ∨ OddM H3 tg s l ra hs b := fun {b o} e => by
          by_cases w : OddM H3 tg s l ra hs b
          · exact .inr w
          · refine .inl fun z => ?_
            have := kO6 b o e w
            rw [← z, hl26] at this
            cases this
        have l2r : l2 ≠ ra := ne_of el2 era7 fun z => nomatch z
        have hs7 : StAt (L2.upd H7 ra (.dK (rpK row hl l2))) s l (n + 1 + 1) := (hs6.kp (Kp.same (M := fun _ => False) S6) (fun z => z) (fun z => z)).upd (offO _ nra.1).1
        have off2 : ¬ onSt s l l2 := hs6.off hl26
        have tl2 : tg l2 = none := W6.untag hl26
        refine ⟨rfl, hs7, TabS.kps (TabS.kps hT6 (KpS.same S6)) (KpS.at_ era7 True.intro), r0.fs ++ [.fn fn], l2, row.filters.map V.str ++ [.str ""], ?_, upd_same, by rw [upd_ne l2r]; exact el2, by rw [List.length_append, List.length_append, List.length_map, lfs]; rfl, by rw [List.length_append, List.length_singleton]; omega, ?_, ?_, ⟨off2, tl2⟩, by rw [upd_ne (ne_of (S6 _ _ ehs6) era7 fun z => nomatch z)]; exact S6 _ _ ehs6, fun b z => hst3b b (xn b (nn6 b (Same.was S6 (was_none z)))), (kO6.trans (Kp.same S6)).trans (Kp.at (.inl rfl))⟩
        · exact (W6.same S6).kpu (KpU.at_ (offO _ nra.1).2 era7 (fun z => nomatch z))
        · intro z
          rcases h26 W3.lgE with w | w
          · exact w z
          · rcases w with w | w | w | ⟨ps, w⟩ | ⟨t, w⟩
            · exact nra.2.2.2.2 w.symm
            · exact W3.d5 w.symm
            · exact (offO _ W3.nl).1 w
            · rw [W3.lgE] at w; cases w
            · rw [(offO _ W3.nl).2] at w; cases w
        · exact Ne.symm (ne_of_none ehs6 hl26)
      · refine ⟨rfl, hs4, hT4, r0.fs, fl, row.filters.map V.str, yw4, era4, efl4, by rw [List.length_map]; omega, by omega, nfl.2.2.2.2, nfl.2.2.1, offO _ nfl.1, k4 _ _ W3.hsE (offO _ W3.nh).1, hst3b, kO⟩
    rintro σ' H4 ⟨rfl, hs4, hT4, fsx, fl1, ys1, yw4, era4, efl4, hyl1, hfx3, nfl1, nfh1, offf1, ehs4, nn4, kO4⟩
    have hq3 := W3.at_
    have hqo := offO _ W3.np
    have hqr : q ≠ ra := fun z => nra.2.1 z.symm
    have hqh : q ≠ hs := W3.d1
    have O4 : OS K tg s l ptb H3 ra hs row hl fl1 ys1 hps (Y.putLg nm { r0 with fs := fsx }) (n + 2) H4 := ⟨yw4, hs4, hT4, kO4, era4, efl4, ehs4, nn4, ts, tl, offO _ nra.1, offf1, offO _ W3.nh⟩
    clear yw4 hs4 hT4 kO4 era4 efl4 ehs4
    have hrokA : ∀ x ∈ pl.loggers, RPok pl.handlers.length x.2 := fun x hx => (hok.loggers x hx).2
    have hdsOK : ∀ {H' : Hp} {Y' : YD}, YardW K H' tg Y' → Y'.hds = Y.hds → ∀ (i : Nat) (r : HdR), Y.hds[i]? = some r → HdOk K H' tg Y'.y i r := fun yw e i r q => yw.hds i r (by rw [e]; exact q)
    have hfewA : ∀ x ∈ pl.handlers, x.filters.length ≤ 2 := fun x hx => (hok.handlers x hx).1.few
    -- an odd handler
    refine ⟨fun σ' H' => (∃ o7, σ' = [some (.ref s), some (.ref Y.y), some (.ref p), some (.ref q), some (.str nm), some (.ref r0.a), some (.ref ra), o7]) ∧ StAt H' s l (n + 50) ∧ LamX.TabS H' ptb lamQ ∧ ∃ v : LV, LVok v ∧ H' lg = some (.dK (rows.map rowE)) ∧
      PVat (fun b => b ≠ lg) H' q lg pl.bar rows (rows.map fun x => (x.1, if x.1 = nm then v else lvOf pl.handlers (rowOf pl x.1))) ∧ YdV K H' Y.y pl.bar (if ("" : Str) = nm then v else lvOf pl.handlers (rowOf pl "")) ((ks.filter fun z : Str => decide (z ≠ ("" : Str))).map fun k => (k, if k = nm then v else lvOf pl.handlers (rowOf pl k))), ?_, ?_⟩
    · refine ⟨_, rfl, ?_⟩
      refine ⟨s, l, 2, _, rfl, O4.st, by omega, by omega, by omega, fun b H5 _ _ hs5 k5 => ?_⟩
      have O5 := O4.draw k5 hs5
      clear O4
      refine ⟨rfl, _, rfl, ?_⟩
      refine ite2 (fun _ => ?_) (fun _ => ?_)
      · -- two handlers are made
        have eY5 : (Y.putLg nm { r0 with fs := fsx }).y = Y.y := put_same.1
        have eH5 : (Y.putLg nm { r0 with fs := fsx }).hds = Y.hds := put_same.2.1
        have eB5 : (Y.putLg nm { r0 with fs := fsx }).bar = Y.bar := put_same.2.2.1
        have eX5 : (Y.putLg nm { r0 with fs := fsx }).mkx = [] := put_same.2.2.2.2.2.trans fit.mkx
        have ePut : ∀ M : List Addr, ({ Y.putLg nm { r0 with fs := fsx } with mkx := M } : YD) = ({ Y with mkx := M } : YD).putLg nm { r0 with fs := fsx } := fun M => put_mkx
        generalize Y.putLg nm { r0 with fs := fsx } = Y5 at O5 eY5 eH5 eB5 eX5 ePut
        obtain ⟨dy5, ey5⟩ := O5.yw.yE
        rw [eY5] at ey5
        have mk5 := O5.yw.mkE
        rw [eX5, List.map_nil, List.append_nil] at mk5
        have hlen5 : Y5.hds.length ≤ 20 := by
          rw [eH5, Paired.length fit.hds]
          omega
        refine ⟨_, rfl, _, rfl, fun x1 d1 hx1 hd1 hne1 => ?_⟩
        have hx1' : L2.upd H5 d1 (.own x1) x1 = none := by rw [upd_ne hne1.symm]; exact hx1
        have sB1 : Same H5 (L2.upd (L2.upd H5 d1 (.own x1)) x1 (.ins (ga K "MemoryHandler") d1 [])) := Same.tr (Same.nw hd1) (Same.nw hx1')
        refine ⟨x1, d1, Y.y, Y5.made, _, _, 3, rfl, upd_same, ⟨dy5, sB1 _ _ ey5⟩, (yd_lk ..).2.1, (yd_lk ..).2.2.1, ne_of_none ey5 hx1, sB1 _ _ mk5, by rw [List.length_map]; omega, fun f1 ex1 H6 hf1 hex1 hsl1 a1 b1 m1 k6 => ⟨rfl, ?_⟩⟩
        have kp6 : Kp (fun b => b = Y5.made) H5 H6 := fun b o e n' => k6 _ _ (sB1 _ _ e) fun z => z.elim (ne_of_none e hx1) n'
        have O6 := O5.made kp6 [x1] m1
        have ey6 := kp6 _ _ ey5 (ne_of ey5 mk5 fun z => nomatch z)
        -- the queue
        refine ⟨_, rfl, fun xq dq hxq hdq hneq => ?_⟩
        have hxq' : L2.upd H6 dq (.own xq) xq = none := by rw [upd_ne hneq.symm]; exact hxq
        refine ⟨xq, dq, rfl, upd_same, fun wl H7 hwl eq1 eq2 k7 => ⟨rfl, ?_⟩⟩
        have s67 : Same H6 H7 := fun b o e => k7 _ _ (by rw [upd_ne (ne_of_none e hxq), upd_ne (ne_of_none e hdq)]; exact e) (ne_of_none e hxq)
        have O7 := O6.same s67
        refine fun x2 d2 hx2 hd2 hne2 => ?_
        have hx2' : L2.upd H7 d2 (.own x2) x2 = none := by rw [upd_ne hne2.symm]; exact hx2
        have sB2 : Same H7 (L2.upd (L2.upd H7 d2 (.own x2)) x2 (.ins (ga K "QueueHandler") d2 [])) := Same.tr (Same.nw hd2) (Same.nw hx2')
        have mk7 := s67 _ _ m1
        have ey7 := s67 _ _ ey6
        refine ⟨x2, d2, Y.y, Y5.made, _, _, .ref xq, rfl, upd_same, ⟨dy5, sB2 _ _ ey7⟩, (yd_lk ..).2.1, (yd_lk ..).2.2.1, ne_of_none ey7 hx2, sB2 _ _ mk7, by rw [List.length_append, List.length_map, List.length_singleton]; omega, fun f2 ex2 H8 hf2 hex2 hsl2 a2 b2 m2 k8 => ⟨rfl, ?_⟩⟩
        have kp8 : Kp (fun b => b = Y5.made) H7 H8 := fun b o e n' => k8 _ _ (sB2 _ _ e) fun z => z.elim (ne_of_none e hx2) n'
        have O8 := O7.made kp8 [x1, x2] (by rw [m2, List.append_assoc]; rfl)
        have O8 : OS K tg s l ptb H3 ra hs row hl fl1 ys1 hps { Y5 with mkx := [x1, x2] } (n + 2 + 1) H8 := O8
        rw [ePut] at O8
        have e18 := kp8 _ _ (s67 _ _ a1) (ne_of (s67 _ _ a1) mk7 fun z => nomatch z)
        have g18 : H8 f1 = some (.lst []) := kp8 _ _ (s67 _ _ b1) fun z => by
          have w := s67 _ _ b1
          rw [z, mk7] at w
          cases q' : (Y5.hds.map fun h => V.ref h.a) with
          | nil => rw [q'] at w; cases w
          | cons y ys => rw [q'] at w; cases w
        have h31 : H3 x1 = none := O5.nn _ hx1
        have t1 : tg x1 = none := O5.yw.untag hx1
        have h32 : H3 x2 = none := O7.nn _ hx2
        have t2 : tg x2 = none := O7.yw.untag hx2
        refine ⟨ssz rfl, fun ll hll => ?_⟩
        have O9 := O8.same (Same.nw (o := .lst [.ref x1, .ref x2]) hll)
        refine ⟨s, ll, l, _, [.ref x1, .ref x2], rfl, O9.st, by simp only [Bud]; omega, O8.st.off hll, upd_same, Nat.lt_of_sub_eq_succ rfl, csz rfl, fun xv H10 hxv hst10 k10 => ?_⟩
        have O10 := O9.draw k10 hst10
        have ⟨xo, C, dxo, flo, exo, exv, hC, hexo, to, h3o, eo, efo, ho1, hfoS, tfo, hfo3⟩ : ∃ xo C dxo flo exo, xv = .ref xo ∧ OC K C ∧ lk exo "setLevel" = none ∧ tg xo = none ∧ H3 xo = none ∧ H10 xo = some (.ins C dxo (hd0 Y.y flo ++ exo)) ∧ H10 flo = some (.lst []) ∧ exo.length ≤ 10 ∧ ¬ onSt s l flo ∧ tg flo = none ∧ H3 flo = none := by
          have keep : ∀ {b o}, H8 b = some o → ¬ onSt s l b → H10 b = some o := fun {b o} e m => k10 _ _ (upd_at e hll) m
          have offI : ∀ {b C dx fs}, H8 b = some (.ins C dx fs) → ¬ onSt s l b := fun {b C dx fs} e m => by
            obtain ⟨ns, a, c, e', q1, q2, _⟩ := O8.st
            rcases m with m | m
            · rw [m, q1] at e; cases e
            · rw [m, q2] at e; cases e
          rcases List.mem_cons.mp hxv with z | z
          · refine ⟨x1, _, d1, f1, ex1, z, .inl rfl, hsl1, t1, h31, keep e18 (offI e18), keep g18 (O5.st.off (was_none (was_none hf1))), hex1, O5.st.off (was_none (was_none hf1)), O5.yw.untag (was_none (was_none hf1)), O5.nn _ (was_none (was_none hf1))⟩
          · rw [List.mem_singleton] at z
            refine ⟨x2, _, d2, f2, ex2, z, .inr rfl, hsl2, t2, h32, keep a2 (offI a2), keep b2 (O7.st.off (was_none (was_none hf2))), hex2, O7.st.off (was_none (was_none hf2)), O7.yw.untag (was_none (was_none hf2)), O7.nn _ (was_none (was_none hf2))⟩
        subst exv
        clear O9 O8 O7 O6 kp8 kp6 k8 k7 k6 s67 sB1 sB2
        -- its level
        obtain ⟨dy10, ey10⟩ := O10.yw.yE
        rw [put_same.1] at ey10
        have hcl := hC.hcls T
        have hln : (hd0 Y.y flo ++ exo).length ≤ 17 := by
          rw [List.length_append]
          show 7 + _ ≤ 17
          omega
        refine ⟨C, hC, _, rfl, xo, dxo, _, rfl, eo, lk_app0 (hd0_lk ..).2 hexo, _, rfl, ssz rfl, fun l3 hl3 => ?_⟩
        have O11 := O10.same (Same.nw (o := .lst [.int 0, .int 7]) hl3)
        refine ⟨s, l3, l, _, [.int 0, .int 7], rfl, O11.st, by simp only [Bud]; omega, O10.st.off hl3, upd_same, Nat.lt_of_sub_eq_succ rfl, csz rfl, fun lvv H12 hlv hst12 k12 => ?_⟩
        have O12 := O11.draw k12 hst12
        obtain ⟨lv, rfl⟩ : ∃ lv : Int, lvv = .int lv := by
          rcases List.mem_cons.mp hlv with z | z
          · exact ⟨0, z⟩
          · exact ⟨7, List.mem_singleton.mp z⟩
        have hxoS : ¬ onSt s l xo := fun m => by
          obtain ⟨ns, a, c, e', q1, q2, _⟩ := O10.st
          rcases m with m | m
          · rw [m, q1] at eo; cases eo
          · rw [m, q2] at eo; cases eo
        have eo12 := k12 _ _ (upd_at eo hl3) hxoS
        have efo12 : H12 flo = some (.lst []) := k12 _ _ (upd_at efo hl3) hfoS
        obtain ⟨dy12, ey12⟩ := O12.yw.yE
        rw [put_same.1] at ey12
        refine ⟨xo, C, dxo, Y.y, _, _, lv, rfl, eo12, hcl.cl, hcl.yard, hcl.level, by omega, lk_app (hd0_lk ..).1, ⟨dy12, ey12⟩, (yd_lk ..).1, ?_⟩
        rw [hd0_level]
        have O13 := O12.big (o := .ins C dxo (hdB Y.y flo lv .non .non "
" false ++ exo)) eo12 (by rw [List.length_append]; show 7 ≤ 7 + _; omega) to h3o
        have eo13 := upd_same (H := H12) (a := xo) (o := .ins C dxo (hdB Y.y flo lv .non .non "
" false ++ exo))
        have efo13 : L2.upd H12 xo (.ins C dxo (hdB Y.y flo lv .non .non "
" false ++ exo)) flo = some (.lst []) := by
          rw [upd_ne (ne_of efo12 eo12 fun z => nomatch z)]
          exact efo12
        generalize L2.upd H12 xo (.ins C dxo (hdB Y.y flo lv .non .non "
" false ++ exo)) = H13 at O13 eo13 efo13 ⊢
        -- it is hung on the logger
        have eM : ({ Y with mkx := [x1, x2] } : YD).lgAt nm = some r0 := e0
        have ok13 := O13.yw.lgOk (lgAt_put eM)
        rw [put_same.1] at ok13
        obtain ⟨d13, a13⟩ := ok13.aE
        have hmemh : ∀ z ∈ r0.hs, ∃ (i : Nat) (h : HdR), Y.hds[i]? = some h ∧ h.a = z := fun z hz => by
          have q' : some z ∈ r0.hs.map some := List.mem_map.mpr ⟨z, hz, rfl⟩
          rw [fitr.hs] at q'
          obtain ⟨i, _, e⟩ := List.mem_map.mp q'
          obtain ⟨h, e1, e2⟩ := Option.map_eq_some_iff.mp e
          exact ⟨i, h, e1, e2⟩
        have hds13 := hdsOK O13.yw (put_same (Y := ({ Y with mkx := [x1, x2] } : YD))).2.1
        have hno : xo ∉ r0.hs := fun z => by
          obtain ⟨i, h, e1, e2⟩ := hmemh _ z
          have t' := (hds13 i h e1).ta
          rw [e2, to] at t'
          cases t'
        have lhs : r0.hs.length = row.handlers.length := by
          have z := congrArg List.length fitr.hs
          rw [List.length_map, List.length_map] at z
          exact z
        refine ⟨_, rfl, r0.a, d13, _, rfl, a13, (lgF_lk ..).2.2.2.2.1, _, rfl, ?_⟩
        refine ⟨r0.a, d13, r0.hl, xo, _, r0.hs, rfl, a13, (lgF_lk ..).2.2.2.2.2.2.2, ok13.hlE, .inl ⟨C, dxo, _, eo13, hC.cmp T⟩, fun z hz => ?_, hno, by omega, ?_⟩
        · obtain ⟨i, h, e1, e2⟩ := hmemh z hz
          obtain ⟨dh, eh⟩ := (hds13 i h e1).aE
          rw [← e2]
          exact .inl ⟨_, dh, _, eh, (hc_of K h.st).cmp T⟩
        have ok14 := ok13.addH xo
        obtain ⟨yw14, kt14⟩ := O13.yw.lgStep eM ok14 rfl rfl rfl rfl (Kp.at (.inr (.inr rfl)))
        have O14 := O13.tag (o := .lst ((r0.hs ++ [xo]).map V.ref)) ok13.hlE ok13.th yw14
        have eo14 : L2.upd H13 r0.hl (.lst ((r0.hs ++ [xo]).map V.ref)) xo = some (.ins C dxo (hdB Y.y flo lv .non .non "
" false ++ exo)) := by
          rw [upd_ne (ne_of eo13 ok13.hlE fun z => nomatch z)]
          exact eo13
        have efo14 : L2.upd H13 r0.hl (.lst ((r0.hs ++ [xo]).map V.ref)) flo = some (.lst []) := by
          rw [upd_ne (fun z => by have t' := ok13.th; rw [← z, tfo] at t'; cases t')]
          exact efo13
        have O14 : OS K tg s l ptb H3 ra hs row hl fl1 ys1 hps (({ Y with mkx := [x1, x2] } : YD).putLg nm { r0 with fs := fsx, hs := r0.hs ++ [xo] }) (n + 2 + 1 + 1 + 1) (L2.upd H13 r0.hl (.lst ((r0.hs ++ [xo]).map V.ref))) := O14
        generalize L2.upd H13 r0.hl (.lst ((r0.hs ++ [xo]).map V.ref)) = H14 at O14 eo14 efo14 ⊢
        clear O13 O12 O11 O10 hds13 ok14 yw14 kt14 ok13
        -- row["handlers"]
        have ehl3r : hl ≠ ra := ne_of ehl era fun z => nomatch z
        have ehl14 := O14.kp ehl (fun _ z => nomatch z) (offO _ nhl.1) ehl3r nhl.2.2.1
        have eq14 := O14.kp hq3 (fun _ z => nomatch z) hqo hqr hqh
        refine ⟨_, rfl, ra, _, rfl, dget O14.era (vr_handlers row hl fl1), _, rfl, q, _, rfl, dget eq14 (vk_handlers hs ws lg pl.bar), hs, _, rfl, .inl (SqL.of O14.ehs), ssz rfl, fun l4 hl4 => ?_⟩
        refine ⟨hl, l4, _, _, rfl, rfl, upd_at ehl14 hl4, upd_same, by rw [List.length_map, List.length_singleton, sizeLine_eq]; omega, fun l5 hl5 => ?_⟩
        have S14 : Same H14 (L2.upd (L2.upd H14 l4 (.lst [.int ((hps.map V.ref).length : Nat)])) l5 (.lst (row.handlers.map natV ++ [.int ((hps.map V.ref).length : Nat)]))) := Same.tr (Same.nw hl4) (Same.nw hl5)
        have el5 := upd_same (H := L2.upd H14 l4 (.lst [.int ((hps.map V.ref).length : Nat)])) (a := l5) (o := .lst (row.handlers.map natV ++ [.int ((hps.map V.ref).length : Nat)]))
        have hl514 : H14 l5 = none := was_none hl5
        generalize L2.upd (L2.upd H14 l4 (.lst [.int ((hps.map V.ref).length : Nat)])) l5 (.lst (row.handlers.map natV ++ [.int ((hps.map V.ref).length : Nat)])) = H15 at S14 el5 ⊢
        have O15 := O14.same S14
        refine ⟨_, rfl, ra, _, rfl, DPut.k (k := kS "handlers") O15.era (lsz rfl), ?_⟩
        rw [pr_handlers]
        have O16 := O15.rowSet l5
        have el516 : L2.upd H15 ra (.dK (rpK row l5 fl1)) l5 = some (.lst (row.handlers.map natV ++ [.int ((hps.map V.ref).length : Nat)])) := by
          rw [upd_ne (ne_of el5 O15.era fun z => nomatch z)]
          exact el5
        have eo16 : L2.upd H15 ra (.dK (rpK row l5 fl1)) xo = some (.ins C dxo (hdB Y.y flo lv .non .non "
" false ++ exo)) := by
          rw [upd_ne (ne_of (S14 _ _ eo14) O15.era fun z => nomatch z)]
          exact S14 _ _ eo14
        have efo16 : L2.upd H15 ra (.dK (rpK row l5 fl1)) flo = some (.lst []) := by
          rw [upd_ne (ne_of (S14 _ _ efo14) O15.era fun z => nomatch z)]
          exact S14 _ _ efo14
        have hl53 : H3 l5 = none := O14.nn _ hl514
        generalize L2.upd H15 ra (.dK (rpK row l5 fl1)) = H16 at O16 el516 eo16 efo16 ⊢
        clear O15 O14
        -- found["handlers"]
        have eq16 := O16.kp hq3 (fun _ z => nomatch z) hqo hqr hqh
        refine ⟨_, rfl, q, _, rfl, dget eq16 (vk_handlers hs ws lg pl.bar), .inl ⟨rfl, _, SqL.of O16.ehs⟩, fun dd hdd => ?_⟩
        refine ⟨_, rfl, xo, C, dxo, _, _, rfl, upd_at eo16 hdd, hcl.cl, hcl.level, lk_app (hdB_lk ..).1, ssz rfl, fun l6 hl6 => ?_⟩
        have hdl : dd ≠ l6 := ne_of_none upd_same hl6
        refine ⟨upd_at upd_same hl6, [(kS "level", .int lv), (kS "filters", .ref l6)], rfl, Nat.le_of_ble_eq_true rfl, ?_⟩
        have S16 : Same H16 (L2.upd (L2.upd (L2.upd H16 dd (.dK [])) l6 (.lst [])) dd (.dK (mergeK [] [(kS "level", .int lv), (kS "filters", .ref l6)]))) := Same.wr (Same.tr (Same.nw hdd) (Same.nw hl6)) hdd
        have edd := upd_same (H := L2.upd (L2.upd H16 dd (.dK [])) l6 (.lst [])) (a := dd) (o := .dK (mergeK [] [(kS "level", .int lv), (kS "filters", .ref l6)]))
        have el6 : L2.upd (L2.upd (L2.upd H16 dd (.dK [])) l6 (.lst [])) dd (.dK (mergeK [] [(kS "level", .int lv), (kS "filters", .ref l6)])) l6 = some (.lst []) := by rw [upd_ne hdl.symm, upd_same]
        have hl616 : H16 l6 = none := was_none hl6
        generalize L2.upd (L2.upd (L2.upd H16 dd (.dK [])) l6 (.lst [])) dd (.dK (mergeK [] [(kS "level", .int lv), (kS "filters", .ref l6)])) = H17 at S16 edd el6 ⊢
        have O17 := O16.same S16
        refine ⟨hs, _, _, rfl, rfl, O17.ehs, by rw [List.length_map, sizeLine_eq, Paired.length W3.hsP]; omega, ?_⟩
        -- the end
        have off18 : ∀ {b : Addr} {o : HO}, H17 b = some o → b ≠ hs → L2.upd H17 hs (.lst (hps.map V.ref ++ [.ref dd])) b = some o := fun {b o} e n' => by
          rw [upd_ne n']
          exact e
        have yw18 := O17.yw.kpu (KpU.lst (o := .lst (hps.map V.ref ++ [.ref dd])) O17.ho.2 O17.ehs)
        have kO18 : Kp (OddM H3 tg s l ra hs) H3 (L2.upd H17 hs (.lst (hps.map V.ref ++ [.ref dd]))) := O17.kO.trans (Kp.at (.inr (.inl rfl)))
        have hnone : ∀ {b : Addr}, H3 b = none → b ≠ hs ∧ b ≠ lg := fun {b} e => ⟨(fun z => by rw [z, W3.hsE] at e; cases e), (fun z => by rw [z, W3.lgE] at e; cases e)⟩
        have hdd3 : H3 dd = none := O16.nn _ hdd
        have hl63 : H3 l6 = none := O16.nn _ hl616
        refine ⟨⟨_, rfl⟩, (O17.st.upd O17.ho.1).mono (by omega), TabS.kps O17.T (KpS.at_ O17.ehs True.intro), ⟨row.disabled, row.level, row.prop, fsx.length, row.handlers.map (hvAt pl.handlers) ++ [⟨lv, 0⟩]⟩, ?_, ?_⟩
        · refine ⟨by show fsx.length ≤ 100; omega, by show (row.handlers.map _ ++ [_]).length ≤ 100; rw [List.length_append, List.length_map, List.length_singleton]; omega, fun x hx => ?_⟩
          rcases List.mem_append.mp hx with z | z
          · exact (lvOf_ok (hps := pl.handlers) hrok hfewA).each x z
          · rw [List.mem_singleton.mp z]
            exact Nat.zero_le _
        obtain ⟨z1, z2⟩ := odd_hpv W3 Cw.dis hra offO kO18
        have hlps := Paired.length W3.hsP
        refine ⟨z1, odd_pvat (ats := row.handlers ++ [hps.length]) W3 Cw.ndR Cw.dis hok.nd hrokA hra hrow offO kO18 (off18 O17.era (ne_of era W3.hsE fun z => nomatch z)) nfl1 (off18 O17.efl nfh1) hyl1 (hnone hl53).2 ?_ (more := [.ref dd]) upd_same ⟨rfl, rfl, rfl⟩ ?_, ?_⟩
        · refine (off18 (S16 _ _ el516) (hnone hl53).1).trans ?_
          rw [List.map_append, List.length_map]
          rfl
        · refine Paired.app (hps_paired2 z2 fun i hi => hrok.handlers i hi) (.cons ⟨.ref dd, ?_, dd, _, l6, [], rfl, (hnone hdd3).2, off18 edd (hnone hdd3).1, by kernel_rfl, by kernel_rfl, (hnone hl63).2, off18 el6 (hnone hl63).1, rfl⟩ .nil)
          rw [List.getElem?_append_right (by rw [List.length_map]; exact Nat.le_refl _), List.length_map, Nat.sub_self]
          rfl
        · have ok18 := yw18.lgOk (lgAt_put (Y := ({ Y with mkx := [x1, x2] } : YD)) e0)
          have eY := put_same (Y := ({ Y with mkx := [x1, x2] } : YD)) (k := nm) (r := { r0 with fs := fsx, hs := r0.hs ++ [xo] })
          refine odd_ydv (r' := { r0 with fs := fsx, hs := r0.hs ++ [xo] }) T yw18 fit hok.nd yw.nd eY.1 eY.2.2.1 eY.2.1 ?_ ?_ e0 rfl ?_
          · rw [put_rt, put_rt]
          · rw [← put_mkx]
          · refine ok18.lv fitr.dis fitr.level fitr.prop rfl ?_
            show Paired (HVat K _) ((r0.hs ++ [xo]).map V.ref) (row.handlers.map (hvAt pl.handlers) ++ [⟨lv, 0⟩])
            rw [List.map_append]
            refine Paired.app (hs_paired fitr.hs fit.hds fun i r h e q => (hdsOK yw18 eY.2.1 i r e).hv T q) (.cons ⟨xo, C, dxo, _, flo, [], rfl, off18 (S16 _ _ eo16) ?_, hcl.cl, hcl.level, hcl.filters, lk_app (hdB_lk ..).1, lk_app (hdB_lk ..).2, off18 (S16 _ _ efo16) ?_, rfl⟩ .nil)
            · exact (hnone h3o).1
            · exact (hnone hfo3).1
      · refine ⟨⟨_, rfl⟩, O5.st.mono (by omega), O5.T, ⟨row.disabled, row.level, row.prop, fsx.length, row.handlers.map (hvAt pl.handlers)⟩, ?_, ?_⟩
        · refine ⟨by show fsx.length ≤ 100; omega, by show (row.handlers.map _).length ≤ 100; rw [List.length_map]; omega, fun x hx => ?_⟩
          exact (lvOf_ok (hps := pl.handlers) hrok hfewA).each x hx
        obtain ⟨z1, z2⟩ := odd_hpv W3 Cw.dis hra offO O5.kO
        have ehl5 := O5.kp ehl (fun _ z => nomatch z) (offO _ nhl.1) (ne_of ehl era fun z => nomatch z) nhl.2.2.1
        refine ⟨z1, odd_pvat W3 Cw.ndR Cw.dis hok.nd hrokA hra hrow offO O5.kO O5.era nfl1 O5.efl hyl1 nhl.2.2.2.2 ehl5 (more := []) (by rw [List.append_nil]; exact O5.ehs) ⟨rfl, rfl, rfl⟩ (hps_paired2 z2 fun i hi => hrok.handlers i hi), ?_⟩
        have ok5 := O5.yw.lgOk (lgAt_put e0)
        refine odd_ydv T O5.yw fit hok.nd yw.nd put_same.1 put_same.2.2.1 put_same.2.1 rfl rfl e0 rfl ?_
        exact ok5.lv fitr.dis fitr.level fitr.prop rfl (hs_paired fitr.hs fit.hds fun i r h e q => (hdsOK O5.yw put_same.2.1 i r e).hv T q)
    rintro σ' H' ⟨⟨o7, rfl⟩, hst', hT', v, hv, z1, z2, z3⟩
    refine ⟨_, rfl, ?_⟩
    refine k q lg rows (fun k => if k = nm then v else lvOf pl.handlers (rowOf pl k)) H' z1 (rows_keysP W3.lgP) z2 z3 (fun k hk => ?_) hT' hst'
    show LVok (if k = nm then v else lvOf pl.handlers (rowOf pl k))
    by_cases en : k = nm
    · rw [if_pos en]
      exact hv
    · rw [if_neg en]
      obtain ⟨x, hx, rfl⟩ := List.mem_map.mp hk
      rw [rowOf_eq hok.nd (show (x.1, x.2) ∈ pl.loggers from hx)]
      exact lvOf_ok (hrokA x hx) hfewA
end
end Ry
namespace Ry
open PySem PySem.Spec PyProof.Rows L2 He RyH
open C8 (pss_cut tCut Cal Met Mak pe_c pe_mk pe_mt pe_mt0 pe_gc)
/-! ### sorted lists of texts -/
theorem risingS_pw : ∀ (p : Str) (l : List Str), risingS p l = true → (p :: l).Pairwise (fun a b => ltCps b.cps.toList a.cps.toList = false)
  | p, [], _ => by simp
  | p, x :: r, h => by
    have h' : (!ltCps x.cps.toList p.cps.toList && risingS x r) = true := h
    rw [Bool.and_eq_true, Bool.not_eq_true'] at h'
    have ih := risingS_pw x r h'.2
    refine List.pairwise_cons.mpr ⟨fun y hy => ?_, ih⟩
    rcases List.mem_cons.mp hy with e | e
    · rw [e]
      exact h'.1
    · have q := (List.pairwise_cons.mp ih).1 y e
      have h1 := h'.1
      rw [ltCps_eq] at q h1 ⊢
      rw [decide_eq_false_iff_not] at q h1 ⊢
      exact fun z => by
        have a1 : p.cps.toList ≤ x.cps.toList := List.not_lt.mp h1
        have a2 : x.cps.toList ≤ y.cps.toList := List.not_lt.mp q
        exact List.not_lt.mpr (List.le_trans a1 a2) z
theorem sortedS_uniq {xs ys : List Str} (hp : xs.Perm ys) (h1 : sortedS xs = true) (h2 : sortedS ys = true) : xs = ys := by
  have pw : ∀ {l : List Str}, sortedS l = true → l.Pairwise (fun a b => PySem.W.dataLe false PyData.str a b = true) := fun {l} h => by
    cases l with
    | nil => exact .nil
    | cons x r =>
      refine (risingS_pw x r h).imp fun {a b} z => ?_
      have e : PySem.W.dataLe false (fun b : Str => PyData.str b) = _ := PySem.W.dataLe_str (β := Str) fun b => b
      show PySem.W.dataLe false (fun b : Str => PyData.str b) a b = true
      rw [e]
      rw [ltCps_eq, decide_eq_false_iff_not] at z
      exact decide_eq_true (List.not_lt.mp z)
  have e1 := List.mergeSort_of_pairwise (pw h1)
  have e2 := List.mergeSort_of_pairwise (pw h2)
  have e3 := RyD.sortDat_perm (enc := PyData.str) (fun a b h => by
    simp only [PySem.W.keyToks, List.cons.injEq, Sum.inr.injEq, and_true] at h
    exact PySem.W.str_of_cps h) hp
  rw [← e1, ← e2]
  exact e3
/-! ### deeds as data: what == asks -/
def Dd.okS : Dd → Prop
  | .bar => True
  | .d2 w nm => PyData.strOk w = true ∧ PyData.strOk nm = true
  | .d3 w nm _ => PyData.strOk w = true ∧ PyData.strOk nm = true
  | .d4 w nm _ _ => PyData.strOk w = true ∧ PyData.strOk nm = true
theorem canLay_dd (d : Dd) (h : d.okS) : (Dd.enc d).canLay0 = true := by
  cases d with
  | bar => simp [Dd.enc, Dd.ds, PyData.canLay0, PyData.canLayAll0]; decide +kernel
  | d2 w nm => simp [Dd.enc, Dd.ds, PyData.canLay0, PyData.canLayAll0, h.1, h.2]
  | d3 w nm i => simp [Dd.enc, Dd.ds, PyData.canLay0, PyData.canLayAll0, h.1, h.2]
  | d4 w nm i n => simp [Dd.enc, Dd.ds, PyData.canLay0, PyData.canLayAll0, h.1, h.2]
theorem eqv_dd (d : Dd) : PyData.eqv (Dd.enc d) (Dd.enc d) = true := by
  cases d <;> simp [Dd.enc, Dd.ds, PyData.eqv, PyData.eqvAll]
theorem eqvAll_dd : ∀ ds : List Dd, PyData.eqvAll (ds.map Dd.enc) (ds.map Dd.enc) = true
  | [] => by simp [PyData.eqvAll]
  | d :: ds => by
    rw [List.map_cons, PyData.eqvAll, eqv_dd, eqvAll_dd ds]
    rfl
theorem eqv_dds (ds : List Dd) : PyData.eqv (.list (ds.map Dd.enc)) (.list (ds.map Dd.enc)) = true := by
  rw [PyData.eqv]
  exact eqvAll_dd ds
theorem canLayAll_dd : ∀ {ds : List Dd}, (∀ d ∈ ds, d.okS) → PyData.canLayAll0 (ds.map Dd.enc) = true
  | [], _ => by simp [PyData.canLayAll0]
  | d :: ds, h => by
    rw [List.map_cons, PyData.canLayAll0, canLay_dd d (h d (List.mem_cons_self ..)), canLayAll_dd fun x hx => h x (List.mem_cons_of_mem _ hx)]
    rfl
theorem depthAll_dd : ∀ ds : List Dd, PyData.depthAll (ds.map Dd.enc) ≤ 2
  | [] => by simp [PyData.depthAll]
  | d :: ds => by
    have h1 := depthAll_dd ds
    have h2 : (Dd.enc d).depth ≤ 2 := by cases d <;> simp [Dd.enc, Dd.ds, PyData.depth, PyData.depthAll]
    rw [List.map_cons, PyData.depthAll]
    omega
theorem shaped_dds {ds : List Dd} (h : ∀ d ∈ ds, d.okS) : SeqAt.shaped (.list (ds.map Dd.enc)) = true := by
  unfold SeqAt.shaped
  have h1 := depthAll_dd ds
  rw [PyData.canLay0, canLayAll_dd h, PyData.depth, Bool.true_and]
  exact decide_eq_true (by omega)
theorem dOf_ok {nm : Str} {v : LV} (h : PyData.strOk nm = true) : ∀ d ∈ dOf nm v, d.okS := by
  have wok : PyData.strOk "disabled" = true ∧ PyData.strOk "level" = true ∧ PyData.strOk "propagate" = true ∧ PyData.strOk "filter" = true ∧ PyData.strOk "handler" = true := by decide +kernel
  obtain ⟨w1, w2, w3, w4, w5⟩ := wok
  have hh : ∀ (xs : List HV) (i : Nat), ∀ d ∈ hDd nm i xs, d.okS := by
    intro xs
    induction xs with
    | nil => intro i d hd; cases hd
    | cons x xs ih =>
      intro i d hd
      rw [hDd] at hd
      rcases List.mem_append.mp hd with z | z
      · rcases List.mem_append.mp z with z | z
        · rcases List.mem_cons.mp z with z | z
          · rw [z]
            exact ⟨w5, h⟩
          · split at z
            · cases z
            · rw [List.mem_singleton.mp z]
              exact ⟨w2, h⟩
        · obtain ⟨n, _, rfl⟩ := List.mem_map.mp z
          exact ⟨w4, h⟩
      · exact ih (i + 1) d z
  intro d hd
  unfold dOf aDd at hd
  rcases List.mem_append.mp hd with z | z
  · rcases List.mem_append.mp z with z | z
    · rcases List.mem_append.mp z with z | z
      · rcases List.mem_append.mp z with z | z
        · split at z
          · rw [List.mem_singleton.mp z]
            exact ⟨w1, h⟩
          · cases z
        · split at z
          · cases z
          · rw [List.mem_singleton.mp z]
            exact ⟨w2, h⟩
      · split at z
        · cases z
        · rw [List.mem_singleton.mp z]
          exact ⟨w3, h⟩
    · obtain ⟨n, _, rfl⟩ := List.mem_map.mp z
      exact ⟨w4, h⟩
  · exact hh _ _ d z
theorem rDd_ok {rows : List (Str × LV)} (h : ∀ x ∈ rows, PyData.strOk x.1 = true) : ∀ d ∈ rDd rows, d.okS := fun d hd => by
  obtain ⟨x, hx, z⟩ := List.mem_flatMap.mp hd
  exact dOf_ok (h x hx) d z
theorem bDd_ok (b : Int) : ∀ d ∈ bDd b, d.okS := fun d hd => by
  unfold bDd at hd
  split at hd
  · cases hd
  · rw [List.mem_singleton.mp hd]
    exact True.intro
theorem sortD_ok {ds : List Dd} (h : ∀ d ∈ ds, d.okS) : ∀ d ∈ sortD ds, d.okS := fun d hd => h d ((List.mergeSort_perm ds _).mem_iff.mp hd)
theorem menu_ok : ∀ x ∈ ("" : Str) :: logMenu, PyData.strOk x = true := by decide +kernel
theorem dpAll_dds {K : PySem.W.Frag} {H : Hp} : ∀ {xs : List V} {ds : List Dd}, Paired (DdAt H) xs ds → DpAll K H xs (ds.map Dd.enc)
  | _, _, .nil => .nil
  | _, _, .cons r t => .cons r.dp (dpAll_dds t)
theorem dpAll_strs {K : PySem.W.Frag} {H : Hp} : ∀ xs : List Str, DpAll K H (xs.map V.str) (xs.map PyData.str)
  | [] => .nil
  | x :: xs => .cons (.str x) (dpAll_strs xs)
theorem shaped_strs {xs : List Str} (h : ∀ x ∈ xs, PyData.strOk x = true) : SeqAt.shaped (.list (xs.map PyData.str)) = true := by
  have h1 : ∀ {xs : List Str}, (∀ x ∈ xs, PyData.strOk x = true) → PyData.canLayAll0 (xs.map PyData.str) = true := by
    intro xs
    induction xs with
    | nil => intro _; simp [PyData.canLayAll0]
    | cons x xs ih =>
      intro h
      rw [List.map_cons, PyData.canLayAll0, ih fun y hy => h y (List.mem_cons_of_mem _ hy), PyData.canLay0, h x (List.mem_cons_self ..)]
      rfl
  have h2 : ∀ xs : List Str, PyData.depthAll (xs.map PyData.str) = 0 := by
    intro xs
    induction xs with
    | nil => simp [PyData.depthAll]
    | cons x xs ih =>
      rw [List.map_cons, PyData.depthAll, ih]
      simp [PyData.depth]
  unfold SeqAt.shaped
  rw [PyData.canLay0, h1 h, PyData.depth, h2]
  decide
theorem eqv_strs (xs : List Str) : PyData.eqv (.list (xs.map PyData.str)) (.list (xs.map PyData.str)) = true := by
  rw [PyData.eqv]
  induction xs with
  | nil => simp [PyData.eqvAll]
  | cons x xs ih =>
    rw [List.map_cons, PyData.eqvAll, ih]
    simp [PyData.eqv]
end Ry
namespace Ry
open PySem PySem.Spec PyProof.Rows L2 He RyH
open C8 (pss_cut tCut Cal Met Mak pe_c pe_mk pe_mt pe_mt0 pe_gc)
/-! ### the law -/
theorem PlanAt.live {N N' : Addr → Prop} {H : Hp} {p : Addr} {pl : Pl} (x : PlanAt N H p pl) (hn : ∀ b, N b → H b ≠ none → N' b) : PlanAt N' H p pl := by
  obtain ⟨hs, ws, lg, hps, wvs, rows, W⟩ := x
  have l : ∀ {a : Addr} {o : HO}, H a = some o → H a ≠ none := fun e => live_of e
  refine ⟨hs, ws, lg, hps, wvs, rows, hn _ W.np (l W.at_), hn _ W.nh (l W.hsE), hn _ W.nw (l W.wsE), hn _ W.nl (l W.lgE), W.d1, W.d2, W.d3, W.d4, W.d5, W.d6, W.at_, W.hsE, ?_, W.wsE, ?_, W.lgE, ?_⟩
  · exact Paired.impl W.hsP fun _ _ z => z.to fun b nb lb => ⟨hn _ nb.1 lb, nb.2⟩
  · refine Paired.impl W.wsP fun _ _ z => ?_
    obtain ⟨t, e, nt, q⟩ := z
    exact ⟨t, e, ⟨hn _ nt.1 (l q), nt.2⟩, q⟩
  · exact Paired.impl W.lgP fun _ _ z => ⟨z.1, z.2.to fun b nb lb => ⟨hn _ nb.1 lb, nb.2⟩⟩
def spLaw (K : PySem.W.Frag) (ptb : Addr) : Sp := fun vs H Q _ => ∃ (a : Addr) (ns : List Int), vs = [.ref a] ∧ SqL K H a (ns.map V.int) ∧ ns.length ≤ 63 ∧ LamX.TabS H ptb lamQ ∧ ∀ H', Q (.bl true) H'
section
variable {P : Program} {w : World} {K : PySem.W.Frag} {mg : Str → Option Value} {base : Heap}
theorem sc_law : FnScope ["_law_script", "_law_stream", "_law_turn", "_law_plan_here", "_law_yard_here", "_law_due", "_law_again", "_law_found", "_law_one", "_law_name"] ["_law_script"] (defScope s_law) := ⟨rfl, rfl, rfl, by decide +kernel, rfl, by decide +kernel, by decide +kernel⟩
theorem ok_law {f ptb : Addr} {fd : FuncData} (T : Txt w K mg) (TB : LamX.TabB base mg (He.codeOf K ("_law_odd", none)) ptb) (F : FunD K "law" "law" (defArgs s_law) (defBody s_law) (defScope s_law) [] [] f fd) : FnOk P w K mg base CX0 9 f fd ["_law_script"] (spLaw K ptb) := by
  have c_law_plan := cal_law_plan (P := P) (base := base) T
  have c_law_yard := cal_law_yard (P := P) (base := base) T
  have c_law_draw := cal_law_draw (P := P) (base := base) T
  have c_law_odd := cal_law_odd (P := P) (base := base) T TB
  have c_law_deeds := cal_law_deeds (P := P) (base := base) T
  have c_deeds := cal_deeds (P := P) (base := base) T
  have c_Yard_loggers := met_Yard_loggers (P := P) (base := base) T
  have c_mk_Yard := mk_Yard (P := P) (base := base) T
  refine F.ok sc_law (fun vs H Q E h => ?_) (fun cdv A outer s H vs Q E hr h => ?_)
  · obtain ⟨_, _, rfl, _⟩ := h
    rfl
  · obtain ⟨a, ns, rfl, ha, hns, hT, k⟩ := h
    refine ⟨_, PSs.nox (pss_cons (ps_set (i := 1) sc_law.nd rfl (Or.inl rfl) (pe_lst (pa_cons (pe_callTy (T := "list") call_list_of (by rfl) T.f_list (by decide +kernel) (pa_cons (pv 0) pa_nil)) (pa_cons pe_int (pa_cons pe_int (pa_cons pe_int pa_nil))))))
      (pss_cons (ps_for PassesOwn.never rfl (pi_range1 (by rfl) T.f_range (pa_cons pe_int pa_nil)) (pg_name (i := 2) sc_law.nd rfl (Or.inl rfl))
        (pss_cons (ps_set (i := 3) sc_law.nd rfl (Or.inl rfl) (pe_c c_law_plan hr (by decide) (by rfl) (pa_cons (pv 1) (pa_cons pe_int (pa_cons pe_int pa_nil)))))
        (pss_cons (ps_set (i := 4) sc_law.nd rfl (Or.inl rfl) (pe_c c_law_yard hr (by decide) (by rfl) (pa_cons (pv 3) pa_nil)))
        (pss_cut (ps_if (pt_cmpR op_eq (pe_c c_law_draw hr (by decide) (by rfl) (pa_cons (pv 1) (pa_cons pe_int pa_nil))) pe_int (nomark _))
          (pss_one (ps_set (i := 3) sc_law.nd rfl (Or.inl rfl) (pe_c c_law_odd hr (by decide) (by rfl) (pa_cons (pv 1) (pa_cons (pv 4) (pa_cons (pv 3) pa_nil))))))
          pss_nil)
        (pss_cons (ps_set (i := 5) sc_law.nd rfl (Or.inl rfl) (pe_c c_law_deeds hr (by decide) (by rfl) (pa_cons (pv 3) pa_nil)))
        (pss_cons (ps_for PassesOwn.never rfl (pi_range1 (by rfl) T.f_range (pa_cons pe_int pa_nil)) (pg_name (i := 6) sc_law.nd rfl (Or.inl rfl))
          (pss_cons (ps_set (i := 7) sc_law.nd rfl (Or.inl rfl) (pe_c c_deeds hr (by decide) (by rfl) (pa_cons (pv 4) pa_nil)))
          (pss_cut (ps_if (PW.pt (pw_or (pt_cmpR (op_neD hr.units) (pv 7) (pv 5) (nomark _)) (pw_or (pt_not (pt_val (pe_callB (id := "isinstance") call_isi (by rfl) T.f_isinstance (by decide +kernel) (pa_cons (pv 7) (pa_cons (pe_bltn (v := .ty "list") (by rfl) T.f_list (by decide +kernel) rfl) pa_nil))))) (pw_or1 (pt_not (pt_val (pe_callB (id := "all") (cr_all rfl) (by rfl) T.f_all (by decide +kernel) (pa_cons (pe_lc (own := [("_law_one", 8)]) rfl sc_law.nd (pi_list (pv 7)) (blkOk_by (N := ["_law_script", "_law_stream", "_law_turn", "_law_plan_here", "_law_yard_here", "_law_due", "_law_again", "_law_found", "_law_one", "_law_name"]) (sc := defScope s_law) (own := [("_law_one", 8)]) (by decide +kernel)) (fun _ _ _ _ _ => pg_name (i := 8) sc_law.nd rfl (Or.inl rfl)) (fun _ _ _ _ _ => pts_nil) (fun _ _ _ _ _ => (pe_callB (id := "isinstance") (r := rIsi K) call_isi (by rfl) T.f_isinstance (by decide +kernel) (pa_cons (pv 8) (pa_cons (pe_bltn (v := .ty "tuple") (by rfl) T.f_tuple (by decide +kernel) rfl) pa_nil))))) pa_nil))))))))
            (pss_one (ps_ret pe_bl))
            pss_nil)
          (pss_one (ps_expr (pe_bm PySem.F.plainAttrs_list PySem.F.slot_list_append PySem.F.type_list_append mt_append (pv 7) (pa_cons pe_str pa_nil)))))))
        (pss_one (ps_if (pt_cmpR (op_neD hr.units) (pe_mt0 c_Yard_loggers hr (by decide) (pv 4)) (pe_callB cr_sortedS (by rfl) T.f_sorted (by decide +kernel) (pa_cons (pe_lock (pe_lc (own := [("_law_name", 9)]) rfl sc_law.nd (pi_keys (pe_dget (hu_of hr) (pv 3) pe_str (fun _ _ => rfl))) (blkOk_by (N := ["_law_script", "_law_stream", "_law_turn", "_law_plan_here", "_law_yard_here", "_law_due", "_law_again", "_law_found", "_law_one", "_law_name"]) (sc := defScope s_law) (own := [("_law_name", 9)]) (by decide +kernel)) (fun _ _ _ _ _ => pg_name (i := 9) sc_law.nd rfl (Or.inl rfl)) (fun _ _ _ _ _ => pts_one (pt_cmpR op_ne (pv 9) pe_str (nomark _))) (fun _ _ _ _ _ => (pv 9)))) pa_nil)) (nomark _))
          (pss_one (ps_ret pe_bl))
          pss_nil))))))))
      (pss_one (ps_ret (pe_cmpR (op_eqD hr.units) (pe_c c_deeds hr (by decide) (by rfl) (pa_cons (pe_mk0 c_mk_Yard hr (by decide) (by rfl)) pa_nil)) (pe_lst (pa_cons (pe_tup (pa_cons pe_str (pa_cons pe_str pa_nil))) pa_nil)) (nomark _)))))), ?_⟩
    -- the stream
    refine ⟨_, rfl, a, _, rfl, .inl ha, fun l hl => ⟨ssz rfl, fun s hs => ?_⟩⟩
    have hT1 := TabS.kps hT (KpS.same (Same.tr (Same.nw (o := .lst (ns.map V.int)) hl) (Same.nw (o := .lst [.ref l, .int 0, .int 0, .int 0]) hs)))
    have hst1 : StAt (L2.upd (L2.upd H l (.lst (ns.map V.int))) s (.lst [.ref l, .int 0, .int 0, .int 0])) s l (0 * 3200) := ⟨ns, 0, 0, 0, upd_same, upd_at upd_same hs, hns, by decide, by decide, by decide, by decide, by decide⟩
    generalize L2.upd (L2.upd H l (.lst (ns.map V.int))) s (.lst [.ref l, .int 0, .int 0, .int 0]) = H1 at hT1 hst1 ⊢
    refine ⟨5, rfl, by decide, by decide, ?_⟩
    refine for_it walk_range (fun i σ' H' => ∃ o2 o3 o4 o5 o6 o7 o8 o9, σ' = [some (.ref a), some (.ref s), o2, o3, o4, o5, o6, o7, o8, o9] ∧ StAt H' s l (i * 3200) ∧ LamX.TabS H' ptb lamQ) ⟨_, _, _, _, _, _, _, _, rfl, hst1, hT1⟩ (fun _ _ _ _ _ => True.intro) ?_ ?_
    · rintro i x σ' H0 H0' hi ⟨o2, o3, o4, o5, o6, o7, o8, o9, rfl, hst0, hT0⟩ ⟨rfl, rfl⟩
      clear hst1 hT1
      -- the plan
      refine ⟨_, rfl, ?_⟩
      refine ⟨s, l, _, 3, 5, rfl, hst0, by simp only [Bud]; omega, by decide, by decide, fun p pl H1 hpl hP hst1 k1 => ?_⟩
      have hT1 := TabS.kps hT0 (KpS.of k1 fun b o m e => hst0.soft b o m e)
      -- the yard
      refine ⟨_, rfl, ?_⟩
      refine ⟨p, pl, _, 3, 5, rfl, hP, hpl, by decide, by decide, fun tg Y ks H2 yw fit fk => ?_⟩
      have hst2 : StAt H2 s l (i * 3200 + 3000) := hst1.kp (Kp.same (M := fun _ => False) fk.sm) (fun z => z) (fun z => z)
      have hT2 := TabS.kps hT1 (KpS.same fk.sm)
      have ts : tg s = none := by
        obtain ⟨o, e⟩ := hst1.s_some
        exact (fk _ _ e).2
      have tl : tg l = none := by
        obtain ⟨o, e⟩ := hst1.l_some
        exact (fk _ _ e).2
      have tP : tg ptb = none := by
        obtain ⟨ps, e, _⟩ := hT1
        exact (fk _ _ e).2
      have sP : ¬ Fre H0' ptb := fun z => by
        obtain ⟨ps, e, _⟩ := hT0
        have z' : H0' ptb = none := z
        rw [e] at z'
        cases z'
      have hP1 : PlanAt (OffN tg s l ptb) H1 p pl := hP.live fun b nb lb => ⟨by
        cases e : H1 b with
        | none => exact absurd e lb
        | some o => exact (fk _ _ e).2, hst0.off nb, fun z => sP (by rw [← z]; exact nb)⟩
      have hkm : ∀ k ∈ pl.loggers.map (·.1), k ∈ ("" : Str) :: logMenu := fun k hk => by
        obtain ⟨x, hx, rfl⟩ := List.mem_map.mp hk
        exact (hpl.loggers x hx).1
      have hfewL := hpl.fewL
      -- odd
      refine ⟨fun σ' H' => ∃ (p' lg : Addr) (rws : List (Str × Addr)) (f : Str → LV), σ' = [some (.ref a), some (.ref s), some (.int (0 + (i : Int))), some (.ref p'), some (.ref Y.y), o5, o6, o7, o8, o9] ∧ StAt H' s l (i * 3200 + 3100) ∧ LamX.TabS H' ptb lamQ ∧ H' lg = some (.dK (rws.map rowE)) ∧ rws.map (·.1) = pl.loggers.map (·.1) ∧
        PVat (fun b => b ≠ lg) H' p' lg pl.bar rws (rws.map fun x => (x.1, f x.1)) ∧ YdV K H' Y.y pl.bar (f "") ((ks.filter fun z : Str => decide (z ≠ ("" : Str))).map fun k => (k, f k)) ∧ ∀ k ∈ pl.loggers.map (·.1), LVok (f k), ?_, ?_⟩
      · refine ⟨_, rfl, ?_⟩
        refine ⟨s, l, 3, _, rfl, hst2, by omega, by omega, by omega, fun b H3 _ _ hst3 k3 => ?_⟩
        have yw3 := yw.st k3 hst2 ts tl
        have hT3 := TabS.kps hT2 (KpS.of k3 fun b o m e => hst2.soft b o m e)
        have hP3 : PlanAt (OffN tg s l ptb) H3 p pl := hP1.kp ((Kp.same fk.sm).trans k3) fun b hb => ⟨hb, hb.2.1⟩
        refine ⟨rfl, _, rfl, ?_⟩
        refine ite2 (fun _ => ?_) (fun _ => ?_)
        · refine ⟨_, rfl, _, rfl, _, rfl, ?_⟩
          refine ⟨s, l, p, _, tg, Y, pl, ks, 3, 5, rfl, hst3, by simp only [Bud]; omega, yw3, fit, hpl, by decide, by decide, hP3, ts, tl, tP, hT3, fun q lg rws f H4 e1 e2 e3 e4 e5 e6 e7 => ?_⟩
          exact ⟨q, lg, rws, f, rfl, e7.mono (by omega), e6, e1, e2, e3, e4, e5⟩
        · obtain ⟨hs, ws, lg, hps, wvs, rows, W⟩ := hP3
          have hkeys := rows_keysP W.lgP
          refine ⟨p, lg, rows, fun k => if k = "" then lvOf pl.handlers (rowOf pl "") else lvOf pl.handlers (rowOf pl k), rfl, hst3.mono (by omega), hT3, W.lgE, hkeys, ?_, ?_, fun k hk => ?_⟩
          · refine pvat_of (hps := hps.map V.ref ++ []) (fun k => if k = "" then lvOf pl.handlers (rowOf pl "") else lvOf pl.handlers (rowOf pl k)) W.d3 W.at_ W.d5 (by rw [List.append_nil]; exact W.hsE) (by rw [hkeys]; exact hpl.nd) fun r hr => ?_
            obtain ⟨j, hj, ej⟩ := List.getElem_of_mem hr
            obtain ⟨y, ey, hk, hRA⟩ := Paired.nth W.lgP (show rows[j]? = some r by rw [List.getElem?_eq_getElem hj, ej])
            have hmy := List.mem_of_getElem? ey
            have hya : (r.1, y.2) ∈ pl.loggers := by
              have z : r.1 = y.1 := hk
              rw [z]
              exact hmy
            have e : (if r.1 = "" then lvOf pl.handlers (rowOf pl "") else lvOf pl.handlers (rowOf pl r.1)) = lvOf pl.handlers y.2 := by
              by_cases z : r.1 = ""
              · rw [if_pos z, ← z, rowOf_eq hpl.nd hya]
              · rw [if_neg z, rowOf_eq hpl.nd hya]
            show RWV _ _ _ _ (if r.1 = "" then lvOf pl.handlers (rowOf pl "") else lvOf pl.handlers (rowOf pl r.1))
            rw [e]
            exact hRA.rwv (fun b hb => hb.2.2.2.2) (hps_paired W.hsP (fun b hb => hb.2.2.2.2) fun i hi => (hpl.loggers _ hmy).2.handlers i hi)
          · obtain ⟨row, hrow, f⟩ := fit.root
            have z := odd_ydv (r' := Y.root) (v := lvOf pl.handlers (rowOf pl "")) (nm := "") (r0 := Y.root) (Y := Y) T yw3 fit hpl.nd yw.nd rfl rfl rfl (by rw [put_root]) (by rw [put_root]) at_root rfl ?_
            · exact z
            · rw [rowOf_eq hpl.nd hrow]
              exact f.lv T yw3.root.1 fit.hds fun i r e => yw3.hds i r e
          · show LVok (if k = "" then lvOf pl.handlers (rowOf pl "") else lvOf pl.handlers (rowOf pl k))
            have hz : ∀ k ∈ pl.loggers.map (·.1), LVok (lvOf pl.handlers (rowOf pl k)) := fun k hk => by
              obtain ⟨x, hx, rfl⟩ := List.mem_map.mp hk
              rw [rowOf_eq hpl.nd (show (x.1, x.2) ∈ pl.loggers from hx)]
              exact lvOf_ok (hpl.loggers x hx).2 fun x hx => (hpl.handlers x hx).1.few
            by_cases z : k = ""
            · rw [if_pos z]
              exact hz _ hpl.root
            · rw [if_neg z]
              exact hz k hk
      rintro σ' H4 ⟨p', lg, rws, f, rfl, hst4, hT4, elg, hkeys, hpv, hyv, hfok⟩
      have hfok' : ∀ x ∈ rws.map (fun x => (x.1, f x.1)), LVok x.2 := fun x hx => by
        obtain ⟨y, hy, rfl⟩ := List.mem_map.mp hx
        refine hfok y.1 ?_
        rw [← hkeys]
        exact List.mem_map.mpr ⟨y, hy, rfl⟩
      have hrl : rws.length = pl.loggers.length := by
        have z := congrArg List.length hkeys
        rw [List.length_map, List.length_map] at z
        exact z
      -- due
      refine ⟨_, rfl, ?_⟩
      refine ⟨p', lg, pl.bar, rws, _, _, rfl, hpv, elg, fun b h => h, hfok', by rw [List.length_map]; omega, fun d H5 h5 => ?_⟩
      have hperm : (bDd pl.bar ++ dOf "" (f "") ++ rDd ((ks.filter fun z : Str => decide (z ≠ ("" : Str))).map fun k => (k, f k))).Perm (bDd pl.bar ++ rDd (rws.map fun x => (x.1, f x.1))) := by
        have z := view_perm fit.perm hpl.nd hpl.root f
        have e : (rws.map fun x => (x.1, f x.1)) = (pl.loggers.map (·.1)).map fun k => (k, f k) := by
          rw [← hkeys, List.map_map]
          rfl
        rw [e, List.append_assoc]
        exact List.Perm.append_left _ (rDd_perm z).symm
      have hsame := sortD_perm hperm
      have hnmok : ∀ x ∈ rws.map (fun x => (x.1, f x.1)), PyData.strOk x.1 = true := fun x hx => by
        obtain ⟨y, hy, rfl⟩ := List.mem_map.mp hx
        refine menu_ok y.1 (hkm y.1 ?_)
        rw [← hkeys]
        exact List.mem_map.mpr ⟨y, hy, rfl⟩
      have hDok : ∀ d ∈ sortD (bDd pl.bar ++ rDd (rws.map fun x => (x.1, f x.1))), d.okS := sortD_ok fun d hd => by
        rcases List.mem_append.mp hd with z | z
        · exact bDd_ok _ d z
        · exact rDd_ok hnmok d z
      have hDl : (sortD (bDd pl.bar ++ rDd (rws.map fun x => (x.1, f x.1)))).length ≤ 300000 := by
        have h1 := bDd_len pl.bar
        have h2 := rDd_len hfok'
        rw [List.length_map] at h2
        unfold sortD
        rw [List.length_mergeSort, List.length_append]
        omega
      generalize sortD (bDd pl.bar ++ rDd (rws.map fun x => (x.1, f x.1))) = DU at h5 hsame hDok hDl
      have hks : ∀ k ∈ ks, k ∈ pl.loggers.map (·.1) := fun k hk => fit.perm.mem_iff.mp hk
      have hyok : ∀ x ∈ (ks.filter fun z : Str => decide (z ≠ ("" : Str))).map (fun k => (k, f k)), LVok x.2 := fun x hx => by
        obtain ⟨y, hy, rfl⟩ := List.mem_map.mp hx
        exact hfok y (hks y (List.mem_filter.mp hy).1)
      have hkl : ks.length ≤ 4 := by
        have z := fit.perm.length_eq
        rw [List.length_map] at z
        omega
      have hfl := List.length_filter_le (fun z : Str => decide (z ≠ ("" : Str))) ks
      -- twice
      refine ⟨2, rfl, by decide, by decide, ?_⟩
      refine for_it walk_range (fun j σ' H' => ∃ o6 o7, σ' = [some (.ref a), some (.ref s), some (.int (0 + (i : Int))), some (.ref p'), some (.ref Y.y), some (.ref d), o6, o7, o8, o9] ∧ FN H4 d H' DU) ⟨_, _, rfl, h5⟩ (fun _ _ _ _ _ => True.intro) ?_ ?_
      · rintro j x σ' H6 H6' hj ⟨o6, o7, rfl, h6⟩ ⟨rfl, rfl⟩
        refine ⟨_, rfl, ?_⟩
        refine ⟨Y.y, pl.bar, f "", _, rfl, hyv.same h6.2.1, hfok _ hpl.root, hyok, by rw [List.length_map]; omega, fun r H7 h7 => ?_⟩
        rw [hsame] at h7
        have h67 := h6.same h7.2.1
        obtain ⟨xr, er, qr, lr⟩ := h7.at_
        obtain ⟨xd, ed, qd, ld⟩ := h67.at_
        have hrd : r ≠ d := fun z => by
          obtain ⟨xd', ed', _⟩ := h6.at_
          have w := h7.1
          rw [z, ed'] at w
          cases w
        refine ⟨fun σ' H' => σ' = [some (.ref a), some (.ref s), some (.int (0 + (i : Int))), some (.ref p'), some (.ref Y.y), some (.ref d), some (.int (0 + (j : Int))), some (.ref r), o8, o9] ∧ Same H7 H', ?_, ?_⟩
        · refine ⟨_, rfl, _, rfl, ?_⟩
          refine ⟨_, _, Dp.lst (SqL.of er) (dpAll_dds qr), Dp.lst (SqL.of ed) (dpAll_dds qd), shaped_dds hDok, shaped_dds hDok, _, rfl, ?_⟩
          rw [eqv_dds]
          refine iteF ?_
          refine ⟨_, rfl, _, _, _, _, true, rfl, .ty _, .base (.lst er), kit_ty (show kitB "list" "list" = some true by decide +kernel), _, rfl, ?_⟩
          refine iteF ?_
          refine ⟨_, rfl, r, rfl, ⟨_, SqL.of er⟩, ?_⟩
          intro D hD
          refine lc_list (xs := xr) (fun m H' => Same H7 H' ∧ H' D = some (.lst (List.replicate m (V.bl true)))) ⟨Same.nw hD, upd_same⟩ (fun m H' _ h => SqL.of (h.1 _ _ er)) ?_ ?_
          · rintro m x H' hx ⟨k1, h1⟩
            obtain ⟨dd, hdd, t, rfl, et⟩ := Paired.nth qr hx
            refine ⟨rfl, ?_⟩
            refine ⟨_, rfl, ?_⟩
            refine ⟨_, _, _, _, true, rfl, .ty _, .base (.tup (k1 _ _ et)), kit_ty (show kitB "tuple" "tuple" = some true by decide +kernel), ?_⟩
            have hm : m < xr.length := by
              rcases Nat.lt_or_ge m xr.length with z | z
              · exact z
              · rw [List.getElem?_eq_none z] at hx
                cases hx
            refine ⟨_, h1, by rw [List.length_replicate, sizeLine_eq]; omega, Same.wr k1 hD, ?_⟩
            rw [upd_same, List.replicate_succ']
          · rintro H' ⟨k1, h1⟩
            refine ⟨D, List.replicate xr.length true, rfl, SqL.of (by rw [List.map_replicate]; exact h1), ?_⟩
            have e : (List.replicate xr.length true).all id = true := by
              rw [List.all_eq_true]
              intro b hb
              rw [(List.mem_replicate.mp hb).2]
              rfl
            rw [e]
            refine ⟨_, rfl, iteF ?_⟩
            exact ⟨rfl, k1⟩
        rintro σ' H8 ⟨rfl, s78⟩
        have er8 := s78 _ _ er
        refine ⟨_, rfl, .inl ⟨rfl, _, SqL.of er8⟩, r, _, _, rfl, rfl, er8, by rw [lr, sizeLine_eq]; omega, ?_⟩
        refine ⟨_, _, rfl, ?_⟩
        obtain ⟨n8, q8, xs8, e8, p8⟩ := h67.same s78
        refine ⟨n8, Same.wr q8 ?_, xs8, by rw [upd_ne hrd.symm]; exact e8, Paired.impl p8 fun _ _ z => z.kt fun c zs w => ?_⟩
        · cases w : H4 r with
          | none => rfl
          | some o =>
            have z := h6.2.1 _ _ w
            rw [h7.1] at z
            cases z
        · rw [upd_ne (ne_of w er8 fun z => nomatch z)]
          exact w
      rintro σ' H8 ⟨o6, o7, rfl, h8⟩
      -- loggers
      have S8 := h8.2.1
      have hyv0 := hyv
      obtain ⟨dy, fy, r, lm, rwsY, ey, l1, l2, l3, l4, elm, hrt, hndY, hPY⟩ := hyv
      have hkY : rwsY.map (·.1) = ks.filter fun z : Str => decide (z ≠ ("" : Str)) := by
        have aux : ∀ {xs : List (Str × Addr)} {ys : List (Str × LV)}, Paired (fun (x : Str × Addr) (z : Str × LV) => x.1 = z.1 ∧ LVat K H4 x.2 z.2) xs ys → xs.map (·.1) = ys.map (·.1) := fun h => by
          induction h with
          | nil => rfl
          | cons a _ ih => rw [List.map_cons, List.map_cons, ih, a.1]
        rw [aux hPY, List.map_map]
        exact List.map_id _
      refine ⟨_, rfl, Y.y, dy, fy, rfl, S8 _ _ ey, l4, ?_⟩
      have hlY : rwsY.length ≤ 4 := by
        have z := congrArg List.length hkY
        rw [List.length_map] at z
        omega
      refine ⟨Y.y, lm, fy, rwsY, rfl, ⟨dy, S8 _ _ ey⟩, l3, S8 _ _ elm, by omega, fun p5 ys hp5 hpermY hsrtY => ?_⟩
      have S9 : Same H8 (L2.upd H8 p5 (.lst (ys.map V.str))) := Same.nw hp5
      have ep5 := upd_same (H := H8) (a := p5) (o := .lst (ys.map V.str))
      generalize L2.upd H8 p5 (.lst (ys.map V.str)) = H9 at S9 ep5 ⊢
      have S49 := Same.tr S8 S9
      have elg9 := S49 _ _ elg
      obtain ⟨kv, hs, hps, np, ep, m1, m2, m3, _⟩ := hpv
      refine ⟨lg, .dK (rws.map rowE), elg9, True.intro, fun od => ?_⟩
      refine ⟨_, rfl, p', _, rfl, dget (by rw [upd_ne np]; exact S49 _ _ ep) m3, ?_⟩
      refine ⟨lg, od, rfl, .inl ⟨_, upd_same, ?_⟩⟩
      intro D hD
      have hD9 : H9 D = none := was_none hD
      have hDl' : D ≠ lg := fun z => by rw [z, upd_same] at hD; cases hD
      refine lc_it walk_keys (fun j H' => H' lg = some (.frz od (.dK (rws.map rowE))) ∧ Kp (fun b => b = lg) H9 H' ∧ H' D = some (.lst ((((rws.map (·.1)).take j).filter fun z : Str => decide (z ≠ ("" : Str))).map V.str))) ⟨upd_at upd_same hD, (Kp.at (M := fun b => b = lg) rfl).trans (Kp.new hD), upd_same⟩ (fun j H' _ h => h.1) ?_ ?_
      · rintro j x H' H'' hj ⟨e1, k1, eD⟩ ⟨rfl, k0, v0, ek, rfl⟩
        rw [List.length_map] at hj
        have erw : rws[j]? = some rws[j] := List.getElem?_eq_getElem hj
        rw [List.getElem?_map, erw] at ek
        have hk0 : k0 = kS rws[j].1 := (congrArg Prod.fst (Option.some.inj ek)).symm
        subst hk0
        have ent : (rws.map (·.1))[j]? = some rws[j].1 := by rw [List.getElem?_map, erw]; rfl
        rw [filt_nth ent]
        have hlen : (((rws.map (·.1)).take j).filter fun z : Str => decide (z ≠ ("" : Str))).length ≤ 100 := by
          refine Nat.le_trans (List.length_filter_le _ _) ?_
          rw [List.length_take]
          omega
        refine ⟨rfl, ?_⟩
        refine ⟨_, rfl, rfl, _, rfl, ?_⟩
        by_cases hz : rws[j].1 = ("" : Str)
        · have e : (!decide (V.str rws[j].1 = V.str "")) = false := by rw [hz]; rfl
          show if (!decide (V.str rws[j].1 = V.str "")) = true then _ else _
          rw [e]
          refine iteF ⟨e1, k1, ?_⟩
          rw [if_neg (by rw [hz]; decide), List.append_nil]
          exact eD
        · have e : (!decide (V.str rws[j].1 = V.str "")) = true := by rw [decide_eq_false fun z => hz (V.str.inj z)]; rfl
          show if (!decide (V.str rws[j].1 = V.str "")) = true then _ else _
          rw [e]
          refine iteT ?_
          refine ⟨_, rfl, _, eD, by rw [List.length_map, sizeLine_eq]; omega, by rw [upd_ne hDl'.symm]; exact e1, k1.wr hD9, ?_⟩
          rw [upd_same, if_pos (decide_eq_true hz), List.map_append]
          rfl
      · rintro H' ⟨e1, k1, eD⟩
        rw [show (rws.map rowE).length = (rws.map (·.1)).length by rw [List.length_map, List.length_map], List.take_length] at eD
        have S10 : Same H9 (L2.upd H' lg (.dK (rws.map rowE))) := fun b o e => by
          by_cases z : b = lg
          · rw [z, elg9] at e
            cases e
            rw [z, upd_same]
          · rw [upd_ne z]
            exact k1 _ _ e z
        have hfl2 := List.length_filter_le (fun z : Str => decide (z ≠ ("" : Str))) (rws.map (·.1))
        rw [List.length_map] at hfl2
        refine ⟨e1, D, _, rfl, SqL.of (by rw [upd_ne hDl']; exact eD), by omega, fun zs p6 hpZ hsZ hp6 => ?_⟩
        have eyz : ys = zs := by
          refine sortedS_uniq (hpermY.trans ?_) hsrtY hsZ
          rw [hkY]
          refine List.Perm.trans ?_ hpZ.symm
          rw [hkeys]
          exact fit.perm.filter _
        have oky : ∀ x ∈ ys, PyData.strOk x = true := fun x hx => by
          have z := hpermY.mem_iff.mp hx
          rw [hkY] at z
          exact menu_ok x (hkm x (hks x (List.mem_filter.mp z).1))
        have S11 := Same.tr S10 (Same.nw (o := .lst (zs.map V.str)) hp6)
        refine ⟨_, _, Dp.lst (SqL.of (S11 _ _ ep5)) (dpAll_strs ys), Dp.lst (SqL.of upd_same) (dpAll_strs zs), shaped_strs oky, shaped_strs (by rw [← eyz]; exact oky), _, rfl, ?_⟩
        rw [eyz, eqv_strs]
        refine iteF ?_
        have S411 := Same.tr S49 S11
        exact ⟨_, _, _, _, _, _, _, _, rfl, (hst4.kp (Kp.same (M := fun _ => False) S411) (fun z => z) (fun z => z)).mono (by omega), TabS.kps hT4 (KpS.same S411)⟩
    · rintro σ' H5 ⟨o2, o3, o4, o5, o6, o7, o8, o9, rfl, hst5, hT5⟩
      clear hst1 hT1 hst5 hT5
      refine fun x dx hx hdx hne => ?_
      refine ⟨x, dx, rfl, upd_same, fun st fr no nu lm mk hn fa rt lr rf rh lrf H6 nd hfree hnew kk => ⟨rfl, ?_⟩⟩
      obtain ⟨dy, ey⟩ := hnew.ins
      obtain ⟨d2, e2⟩ := hnew.rtE
      have hv : YdV K H6 x 0 ⟨false, 30, true, 0, []⟩ [] := ⟨dy, _, rt, lm, [], ey, (yd_lk ..).2.2.2.2.2.2.2, (yd_lk ..).2.2.2.2.2.2.1, (yd_lk ..).2.2.2.2.2.1, (yd_lk2 ..).2.2.2, hnew.lmE, ⟨d2, _, rf, rh, [], [], e2, (lgF_lk2 ..).1, (lgF_lk2 ..).2.1, (lgF_lk2 ..).2.2, (lgF_lk ..).2.2.2.2.2.2.1, (lgF_lk ..).2.2.2.2.2.2.2, hnew.rflE, rfl, hnew.rhlE, .nil⟩, List.nodup_nil, .nil⟩
      refine ⟨x, 0, ⟨false, 30, true, 0, []⟩, [], rfl, hv, ⟨Nat.zero_le _, Nat.zero_le _, fun z hz => nomatch hz⟩, (fun z hz => nomatch hz), Nat.zero_le _, fun r H7 h7 => ?_⟩
      have eD : sortD (bDd 0 ++ dOf "" ⟨false, 30, true, 0, []⟩ ++ rDd []) = [Dd.d2 "level" ""] := by
        have e : (bDd 0 ++ dOf "" ⟨false, 30, true, 0, []⟩ ++ rDd []) = [Dd.d2 "level" ""] := by kernel_rfl
        rw [e]
        exact List.mergeSort_singleton _
      rw [eD] at h7
      obtain ⟨xr, er, qr, lr⟩ := h7.at_
      refine ⟨ssz rfl, fun t ht => ⟨ssz rfl, fun l2 hl2 => ?_⟩⟩
      have hok : ∀ d ∈ [Dd.d2 "level" ""], d.okS := fun d hd => by
        rw [List.mem_singleton.mp hd]
        exact ⟨by decide +kernel, by decide +kernel⟩
      have s8 : Same H7 (L2.upd (L2.upd H7 t (.tup [.str "level", .str ""])) l2 (.lst [.ref t])) := Same.tr (Same.nw ht) (Same.nw hl2)
      have q2 : Paired (DdAt (L2.upd (L2.upd H7 t (.tup [.str "level", .str ""])) l2 (.lst [.ref t]))) [.ref t] [Dd.d2 "level" ""] := .cons ⟨t, rfl, upd_at upd_same hl2⟩ .nil
      refine ⟨_, _, Dp.lst (SqL.of (s8 _ _ er)) (dpAll_dds (Paired.impl qr fun _ _ z => z.kt fun _ _ w => s8 _ _ w)), Dp.lst (SqL.of upd_same) (dpAll_dds q2), shaped_dds hok, shaped_dds hok, ?_⟩
      rw [eqv_dds]
      exact k _
end
end Ry
namespace Ry
open PySem PySem.Spec PyProof.Rows L2 He RyH
open C8 (pss_cut tCut Cal Met Mak pe_c pe_mk pe_mt pe_mt0 pe_gc)
/-! ### what the end asks -/
theorem lawAt {w : World} {mg : Str → Option Value} {fa_ : Addr} {h : Heap} {K : PySem.W.Frag} (KX : K.In h) (G : h.Ns mainGlobals mg) (hmg : mg "law" = some (.ref fa_)) (c : He.SaysX fa fn ts [("_law_odd", none)] ex w h K) :
    LamX.LawAtS PySem.Challenge.rw_recordyard_k71_deeds_told w K C8.CX0 9 63 "_law_script" mg fa_ h := by
  have T : Txt w K mg := ⟨c.t, c.more, ⟨h, KX, G⟩⟩
  obtain ⟨fd, F⟩ := T.df_law
  have e := hmg.symm.trans T.m_law
  cases e
  have hm : (("_law_odd", none) : He.Defn) ∈ ([("_law_odd", none)] : List He.Defn) := List.mem_singleton.mpr rfl
  have hb := FunD.bindsA (ps := ["_law_script"]) F fun _ _ _ _ _ _ us hl => match us, hl with | [_], _ => rfl
  refine ⟨fd, [He.cT K ("_law_odd", none)], spLaw K (He.cT K ("_law_odd", none)).2, fun p hp => ?_, fun p hp => ?_, fun p hp => ?_, fun s u => hb s [u] rfl, fun H a ns hl _ hT hS => ⟨a, ns, rfl, hS, hl, LamX.TabS.nil (hT _ (List.mem_singleton.mpr rfl)), fun _ => rfl⟩, fun base _ _ TB => ok_law T (TB _ (List.mem_singleton.mpr rfl)) F⟩
  · rw [List.mem_singleton.mp hp]
    exact c.empty _ hm
  · rw [List.mem_singleton.mp hp]
    exact c.out _ hm
  · rw [List.mem_singleton.mp hp]
    exact PySem.W.codeHd_of_K KX (c.hd _ hm)
end Ry
set_option maxHeartbeats 0
open PySem PySem.W PySem.Calls PyProof.Rows
theorem PySem.Challenge.cw_recordyard_k71_deeds_told_holds : PySem.Challenge.rw_recordyard_k71_deeds_told.Holds := by
  w_on; o_law
  refine HandSHeadRun.head_any (r := OpenLaw.row PySem.Challenge.rw_recordyard_k71_deeds_told) (q := Ry.qv) (H := Ry.hk) (ob := Ry.ob) (M := 40000) (loose := Ry.names) (d := HandSHeadRun.topDef (OpenLaw.row PySem.Challenge.rw_recordyard_k71_deeds_told).prog Ry.lawPlace) (kwd := []) Ry.ob_eq
    (by kernel_rfl) (fun s => by kernel_rfl) Ry.run (by kernel_rfl) (by kernel_rfl) (by kernel_rfl) (by rfl) (by first | assumption | decide +kernel) (by decide +kernel) ⟨rfl, rfl, rfl, rfl, rfl, by decide +kernel⟩ ?hw ?hc
  case hw => w_witness2
  case hc =>
    refine LamX.walk_ofTsE (l := PySem.Challenge.rw_recordyard_k71_deeds_told) (n := 63) (k := 9) (x := "_law_script") (CX := fun _ => C8.CX0) rfl (by decide) (by kernel_rfl) ⟨rfl, by decide, by decide⟩ ?F (fun _ _ _ _ _ z => z)
    intro w mg fa h Y G hmg0
    obtain ⟨K, KX, c⟩ := Y
    have hmg : mg ("law" : PySem.Str) = some (.ref fa) := by
      have e : (HandSHeadRun.topDef (OpenLaw.row PySem.Challenge.rw_recordyard_k71_deeds_told).prog Ry.lawPlace).name = ("law" : PySem.Str) := by kernel_rfl
      rw [← e]
      exact hmg0
    exact ⟨K, KX, Ry.lawAt KX G hmg c⟩
